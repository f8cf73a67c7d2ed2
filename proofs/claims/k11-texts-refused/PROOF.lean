import PyProof.Rows.All
import HandS.ForMost
import HandS.ForExc
import HandS.Style
import HandS.Walk
import KE.KDictDisplayH
import Wide.All
import OpenK.AllK
import Wide.FinOn
import HandS.Flow
import HandS.IsInst
import HandS.TupAny
import HandS.Deep
import HandS.Wide
import HandS.Conv
import HandS.Comp
import HandS.Property
import HandS.OwnEq
import HandS.Text
import HandS.RaiseMore
import HandS.Iter
import HandS.StrMore
import HandS.Star
import OpenK.KMake
import PyProof.FactsLen
import HandS.TryMany
import KE.KExcIs
import HandS.ExcField
import KE.GoesEnum
import HandS.TryOnly
import KE.KExcSuper
import HandS.ExcInit
import HandS.FStr
import HandS.Defaults
import HandS.HeadHook1
import HandS.HeadHook2
import HandS.Head0
import HandS.Head1
import HandS.Head2
import HandS.HeadEnd
import PySem.Challenge.RW_pursesbid_k11_texts_refused
import HandS.Words
import HandS.Codes
import PyProof.Rows.StrCut
set_option Elab.async false
set_option linter.all false
set_option maxRecDepth 100000
set_option maxHeartbeats 2000000
/-! MiN: tuples of texts, ints and such tuples, as keys. -/
namespace Mi
open PySem L2 Sem
open PySem.Builtin
abbrev Key2 : Type := Sum Key (List Key)
section
variable {prog : Program} {w : World}
/-- an item of such a key -/
def IsItem (prog : Program) (w : World) (h : Heap) : Key2 → Value → Prop
  | .inl k, v => (mixKind prog w).is k v = true
  | .inr ks, v => ∃ a, v = .ref a ∧ IsTupleKey (mixKind prog w) h ks a
inductive Items2 (prog : Program) (w : World) (h : Heap) : List Key2 → List Value → Prop
  | nil : Items2 prog w h [] []
  | cons {k : Key2} {v : Value} {ks : List Key2} {vs : List Value} : IsItem prog w h k v → Items2 prog w h ks vs → Items2 prog w h (k :: ks) (v :: vs)
def IsKey2 (prog : Program) (w : World) (h : Heap) (ks : List Key2) (a : Addr) : Prop := ∃ o items n, h.get? a = some o ∧ o.cls = .type "tuple" ∧ o.data = .seq items n ∧ Items2 prog w h ks items.toList
theorem isItem_inj {h : Heap} {x y : Key2} {v : Value} (hx : IsItem prog w h x v) (hy : IsItem prog w h y v) : x = y := by
  cases x with
  | inl a =>
    cases y with
    | inl b => rw [(mixKind prog w).inj _ _ _ hx hy]
    | inr b =>
      obtain ⟨p, rfl, _⟩ := hy
      have := (mixKind prog w).byValue _ _ hx
      simp [carriedByValue] at this
  | inr a =>
    obtain ⟨p, rfl, ha⟩ := hx
    cases y with
    | inl b =>
      have := (mixKind prog w).byValue _ _ hy
      simp [carriedByValue] at this
    | inr b =>
      obtain ⟨q, e, hb⟩ := hy
      cases e
      rw [ha.inj hb]
theorem items2_inj {h : Heap} {x y : List Key2} {vs : List Value} (hx : Items2 prog w h x vs) (hy : Items2 prog w h y vs) : x = y := by
  induction hx generalizing y with
  | nil => cases hy; rfl
  | cons h1 _ ih =>
    cases hy with
    | cons h2 t2 => rw [isItem_inj h1 h2, ih t2]
theorem items2_length {h : Heap} {x : List Key2} {vs : List Value} (hx : Items2 prog w h x vs) : x.length = vs.length := by
  induction hx with
  | nil => rfl
  | cons _ _ ih => simp [ih]
theorem key2_typeIs {s : Shared} {ks : List Key2} {a : Addr} (x : IsKey2 prog w s.heap ks a) : s.TypeIs (.ref a) "tuple" := let ⟨o, _, _, ho, hc, _⟩ := x; ⟨o, ho, hc⟩
theorem key2_inj {h : Heap} {a : Addr} {x y : List Key2} (hx : IsKey2 prog w h x a) (hy : IsKey2 prog w h y a) : x = y := by
  obtain ⟨o, items, n, ho, _, hd, hi⟩ := hx
  obtain ⟨o', items', n', ho', _, hd', hi'⟩ := hy
  obtain rfl : o = o' := Option.some.inj (ho.symm.trans ho')
  rw [hd] at hd'
  injection hd' with h1 _
  subst h1
  exact items2_inj hi hi'
theorem isItem_keeps {h h' : Heap} {k : Key2} {v : Value} {d : Addr} {o : Obj} {es ep} (x : IsItem prog w h k v) (ho : h.get? d = some o) (hd : o.data = .dict es ep) (hs : Heap.SameBut d h h') : IsItem prog w h' k v := by
  cases k with
  | inl a => exact x
  | inr a =>
    obtain ⟨p, e, hp⟩ := x
    exact ⟨p, e, hp.keeps ho hd hs⟩
theorem items2_keeps {h h' : Heap} {ks : List Key2} {vs : List Value} {d : Addr} {o : Obj} {es ep} (x : Items2 prog w h ks vs) (ho : h.get? d = some o) (hd : o.data = .dict es ep) (hs : Heap.SameBut d h h') : Items2 prog w h' ks vs := by
  induction x with
  | nil => exact .nil
  | cons h1 _ ih => exact .cons (isItem_keeps h1 ho hd hs) ih
theorem key2_keeps {h h' : Heap} {ks : List Key2} {a d : Addr} {o : Obj} {es ep} (x : IsKey2 prog w h ks a) (ho : h.get? d = some o) (hd : o.data = .dict es ep) (hs : Heap.SameBut d h h') : IsKey2 prog w h' ks a := by
  obtain ⟨o', items, n, ho', hc, hd', hi⟩ := x
  have hne : a ≠ d := by
    rintro rfl
    obtain rfl : o' = o := Option.some.inj (ho'.symm.trans ho)
    rw [hd] at hd'; exact nomatch hd'
  exact ⟨o', items, n, (hs.2 a hne).trans ho', hc, hd', items2_keeps hi ho hd hs⟩
/-- the hash, the new texts it draws -/
def hashI (prog : Program) (w : World) : Key2 → Int
  | .inl k => (mixKind prog w).hash k
  | .inr ks => tupleKeyHash (mixKind prog w) ks
def drawsI : Key2 → Nat
  | .inl _ => 1
  | .inr ks => ks.length + 1
def hash2 (prog : Program) (w : World) (ks : List Key2) : Int := reduceHash (Builtin.Tuple.tupleHashOf (ks.map (hashI prog w)))
def draws2 (ks : List Key2) : Nat := (ks.map drawsI).sum + 1
variable {A : Around} {E : Value → Shared → Prop} {s : Shared}
theorem item_hash {k : Key2} {v : Value} {Q : Int → Shared → Prop} (hu : A.units < cLine) (hk : IsItem prog w s.heap k v) (h : Q (hashI prog w k) { s with toks := s.toks + drawsI k }) : wpAny (model prog w) A (pyHash v) Q E s := by
  cases k with
  | inl a => exact (mixKind prog w).pyHash hk h
  | inr a =>
    obtain ⟨p, rfl, hp⟩ := hk
    exact wpAny_pyHash_tuple hu hp h
theorem item_eq {x y : Key2} {u v : Value} {Q : Bool → Shared → Prop} (hs : x.isLeft = y.isLeft) (hu : A.units < cLine) (hx : IsItem prog w s.heap x u) (hy : IsItem prog w s.heap y v) (h : Q (decide (x = y)) s) : wpAny (model prog w) A (eqBool u v) Q E s := by
  cases x with
  | inl a =>
    cases y with
    | inl b =>
      refine (mixKind prog w).eqBool (a := a) (b := b) hx hy ?_
      have e : decide ((Sum.inl a : Key2) = Sum.inl b) = decide (a = b) := by
        by_cases q : a = b
        · subst q; simp
        · rw [decide_eq_false q, decide_eq_false (fun z => q (Sum.inl.inj z))]
      rw [← e]; exact h
    | inr b => cases hs
  | inr a =>
    obtain ⟨p, rfl, hp⟩ := hx
    cases y with
    | inl b => cases hs
    | inr b =>
      obtain ⟨q, rfl, hq⟩ := hy
      refine wpAny_eqBool_tuple hu hp hq ?_
      have e : decide ((Sum.inr a : Key2) = Sum.inr b) = decide (a = b) := by
        by_cases q : a = b
        · subst q; simp
        · rw [decide_eq_false q, decide_eq_false (fun z => q (Sum.inr.inj z))]
      rw [← e]; exact h
theorem hash_key2 {ks : List Key2} {a : Addr} {Q : Int → Shared → Prop} (hu : A.units + 1 < cLine) (hk : IsKey2 prog w s.heap ks a) (h : Q (hash2 prog w ks) { s with toks := s.toks + draws2 ks }) :
    wpAny (model prog w) A (pyHash (.ref a)) Q E s := by
  have hT := key2_typeIs hk
  obtain ⟨o, items, n, ho, _, hd, hi⟩ := hk
  unfold pyHash
  first | unfold pyHashByItsType | skip
  first | refine wpAny_bind (wpAny_cRoomFor_or (.inr (by omega)) ?_) | skip
  refine wpAny_bind (wpAny_specialOf hT F.slot_tuple_hash.lookup ?_)
  show wpAny _ _ (if (some (Value.builtin "tuple.__hash__") == some Value.none) = true then _ else _) Q E s
  rw [if_neg (by rw [beq_builtin_none]; exact Bool.false_ne_true)]
  refine wpAny_bind (wpAny_specialOf hT F.slot_tuple_hash.lookup ?_)
  show wpAny _ _ (callSpecialIfBoundUnlessNone? (.ref a) "__hash__" _ >>= _) Q E s
  refine wpAny_bind (wpAny_callSpecialIfBoundUnlessNone?_slot hT F.slot_tuple_hash (wpAny_call_entry F.slot_tuple_hash hT F.entry_tuple_hash ?_ (F.args_tuple_hash_1 _)))
  show wpAny _ _ (Builtin.Tuple.tupleItemsOf (.ref a) >>= _) _ _ s
  refine wpAny_bind (wpAny_tupleItemsOf ho hd ?_)
  refine wpAny_bind ?_
  rw [← Array.forIn_toList]
  refine wpAny_forIn_list _
    (fun rest (b : Array Int) s' => ∃ done left, ks = done ++ left ∧ Items2 prog w s.heap left rest ∧ b.toList = done.map (hashI prog w) ∧ s' = { s with toks := s.toks + (done.map drawsI).sum })
    _ ?_ ?_ _ _ ⟨[], ks, rfl, hi, rfl, rfl⟩
  · rintro x rest b s' ⟨done, left, rfl, hl, hb, rfl⟩
    cases hl with
    | @cons k _ ks' _ h1 hl' =>
      refine wpAny_bind (item_hash (s := { s with toks := s.toks + (done.map drawsI).sum }) (by exact hu) h1 ?_)
      first
        | exact wpAny_pure ⟨done ++ [k], ks', by simp, hl', by simp [hb], by simp [Nat.add_assoc]⟩
        | exact wpAny_bind (wpAny_pure (wpAny_pure ⟨done ++ [k], ks', by simp, hl', by simp [hb], by simp [Nat.add_assoc]⟩))
  · rintro b s' ⟨done, left, rfl, hl, hb, rfl⟩
    cases hl
    rw [List.append_nil] at h
    show wpAny _ _ (retInt (Builtin.Tuple.tupleHashOf b.toList)) _ _ _
    rw [hb]
    refine wpAny_ret_mkInt ?_
    show wpAny _ _ (if (decide (-(2 : Int) ^ 63 ≤ Builtin.Tuple.tupleHashOf (done.map (hashI prog w))) && decide (Builtin.Tuple.tupleHashOf (done.map (hashI prog w)) < 2 ^ 63)) = true then _ else _) Q E _
    unfold hash2 reduceHash draws2 at h
    by_cases hr : (decide (-(2 : Int) ^ 63 ≤ Builtin.Tuple.tupleHashOf (done.map (hashI prog w))) && decide (Builtin.Tuple.tupleHashOf (done.map (hashI prog w)) < 2 ^ 63)) = true
    · rw [if_pos hr]
      rw [if_pos hr] at h
      exact wpAny_pure (by simpa [Nat.add_assoc] using h)
    · rw [if_neg hr]
      rw [if_neg hr] at h
      exact wpAny_bind (wpAny_rule (wpAny_pure (by simpa [Nat.add_assoc] using h)))
/-- item by item of one shape -/
def Sh (x y : List Key2) : Prop := ∀ p ∈ x.zip y, p.1.isLeft = p.2.isLeft
theorem eq_tree2 {x y : List Key2} {a b : Addr} {P : Fin → Shared → Prop} (hu : A.units < cLine) (sh : Sh x y) (hx : IsKey2 prog w s.heap x a) (hy : IsKey2 prog w s.heap y b) (h : P (.done (.ret (.bool (decide (x = y))))) s) :
    wpAny (model prog w) A (Builtin.«tuple.__eq__» ⟨[.ref a, .ref b], []⟩) P E s := by
  have hTb := key2_typeIs hy
  obtain ⟨oa, xs, na, hoa, _, hda, hia⟩ := hx
  obtain ⟨ob, ys, nb, hob, _, hdb, hib⟩ := hy
  show wpAny _ _ (isInstance (.ref b) (.type "tuple") >>= _) _ _ s
  refine wpAny_bind (wpAny_isInstance hTb isSubtype_tuple_tuple ?_)
  simp only [Bool.not_true, Bool.false_eq_true, if_false]
  refine wpAny_bind (wpAny_tupleItemsOf hoa hda ?_)
  refine wpAny_bind (wpAny_tupleItemsOf hob hdb ?_)
  refine wpAny_bind ?_
  refine wpAny_forIn_list _
    (fun rest r s' => r.1 = none ∧ s' = s ∧ ∃ x' y' xs' ys', rest = List.zip xs' ys' ∧ Sh x' y' ∧ Items2 prog w s.heap x' xs' ∧ Items2 prog w s.heap y' ys' ∧ decide (x' = y') = decide (x = y) ∧ (xs'.length == ys'.length) = (xs.size == ys.size))
    _ ?_ ?_ _ _ ⟨rfl, rfl, x, y, xs.toList, ys.toList, rfl, sh, hia, hib, rfl, by simp⟩
  · rintro ⟨u, v⟩ rest r s' ⟨hr, rfl, x', y', xs', ys', hz, sh', hx', hy', hdec, hlen⟩
    cases hx' with
    | nil => simp at hz
    | @cons k1 u' x'' xs'' h1 hx'' =>
      cases hy' with
      | nil => simp at hz
      | @cons k2 v' y'' ys'' h2 hy'' =>
        simp only [List.zip_cons_cons, List.cons.injEq, Prod.mk.injEq] at hz
        obtain ⟨⟨rfl, rfl⟩, rfl⟩ := hz
        have sk : k1.isLeft = k2.isLeft := sh' (k1, k2) (by simp)
        have st : Sh x'' y'' := fun p hp => sh' p (by simp only [List.zip_cons_cons]; exact List.mem_cons_of_mem _ hp)
        refine wpAny_bind (item_eq sk hu h1 h2 ?_)
        by_cases hk : k1 = k2
        · subst hk
          rw [decide_eq_true rfl]
          simp only [Bool.not_true, Bool.false_eq_true, if_false]
          refine wpAny_pure ⟨rfl, rfl, x'', y'', xs'', ys'', rfl, st, hx'', hy'', ?_, by simpa using hlen⟩
          rw [← hdec]
          by_cases hxy : x'' = y''
          · simp [hxy]
          · simp [hxy]
        · rw [decide_eq_false hk]
          simp only [Bool.not_false, if_true]
          have hf : decide (x = y) = false := by rw [← hdec]; simp [hk]
          rw [hf] at h
          exact wpAny_bind (wpAny_pure (wpAny_pure (wpAny_pure h)))
  · rintro ⟨r1, r2⟩ s' ⟨hr, rfl, x', y', xs', ys', hz, sh', hx', hy', hdec, hlen⟩
    simp only at hr
    subst hr
    refine wpAny_pure ?_
    have hfin : (xs.size == ys.size) = decide (x = y) := by
      rw [← hdec, ← hlen]
      cases hx' with
      | nil =>
        cases hy' with
        | nil => simp
        | cons _ _ => simp
      | cons _ _ =>
        cases hy' with
        | nil => simp
        | cons _ _ => simp at hz
    show P (.done (.ret (.bool (xs.size == ys.size)))) s'
    rw [hfin]; exact h
theorem eq_key2 {x y : List Key2} {a b : Addr} {Q : Bool → Shared → Prop} (hu : A.units + 1 < cLine) (sh : Sh x y) (hx : IsKey2 prog w s.heap x a) (hy : IsKey2 prog w s.heap y b) (h : Q (decide (x = y)) s) :
    wpAny (model prog w) A (eqBool (.ref a) (.ref b)) Q E s := by
  unfold eqBool
  try with_reducible refine wpAny_holding ?_
  show wpAny _ _ (if (Value.ref a == Value.ref b) = true then _ else _) Q E s
  by_cases hab : (Value.ref a == Value.ref b) = true
  · rw [if_pos hab]
    have e : a = b := by have := eq_of_beq hab; injection this
    subst e
    obtain rfl := key2_inj hx hy
    exact wpAny_bind (wpAny_rule (wpAny_pure (by simpa using h)))
  · rw [if_neg hab]
    exact wpAny_bind (wpAny_richCompare_same_room (op := .Eq) (key2_typeIs hx) (key2_typeIs hy) F.slot_tuple_eq
      (wpAny_call_entry F.slot_tuple_eq (key2_typeIs hx) F.entry_tuple_eq (eq_tree2 (by exact hu) sh hx hy ⟨_, rfl, (fun e => nomatch e), wpAny_truthy_bool h⟩) (F.args_tuple_eq_2 _ _)) (by omega))
theorem item_quiet {k : Key2} {v : Value} {n : Nat} {Q : Bool → Shared → Prop} (hk : IsItem prog w s.heap k v) (h : Q true s) : wpAny (model prog w) A (eqIsQuiet (n + 1) v) Q E s := by
  cases k with
  | inl a =>
    rw [eqIsQuiet_byValue _ ((mixKind prog w).byValue _ _ hk)]
    exact wpAny_pure h
  | inr a =>
    obtain ⟨p, rfl, hp⟩ := hk
    have hT := hp.typeIs
    obtain ⟨o, items, m, ho, _, hd, hi⟩ := hp
    unfold eqIsQuiet
    refine wpAny_bind (wpAny_specialOf hT F.slot_tuple_eq.lookup ?_)
    show wpAny _ _ (isInstance (.ref p) (.type "tuple") >>= _) _ _ s
    refine wpAny_bind (wpAny_isInstance hT isSubtype_tuple_tuple ?_)
    simp only [Bool.not_true, Bool.false_eq_true, if_false]
    refine wpAny_bind (wpAny_seqItems ho hd ?_)
    refine wpAny_bind ?_
    show wpAny _ _ (forIn items _ _) _ _ s
    rw [← Array.forIn_toList]
    refine wpAny_forIn_list _ (fun rest r s' => r.1 = none ∧ s' = s ∧ ∀ v ∈ rest, carriedByValue v = true) _ ?_ ?_ _ _ ⟨rfl, rfl, hi.byValue⟩
    · rintro v rest r s' ⟨hr, rfl, hall⟩
      rw [eqIsQuiet_byValue _ (hall v List.mem_cons_self)]
      refine wpAny_bind (wpAny_pure ?_)
      simp only [Bool.not_true, Bool.false_eq_true, if_false]
      exact wpAny_pure ⟨rfl, rfl, fun u hu' => hall u (List.mem_cons_of_mem _ hu')⟩
    · rintro ⟨r1, r2⟩ s' ⟨hr, rfl, _⟩
      simp only at hr
      subst hr
      exact wpAny_pure h
theorem quiet_key2 {ks : List Key2} {a : Addr} {Q : Bool → Shared → Prop} (hk : IsKey2 prog w s.heap ks a) (h : Q true s) : wpAny (model prog w) A (eqIsQuiet 8 (.ref a)) Q E s := by
  have hT := key2_typeIs hk
  obtain ⟨o, items, n, ho, _, hd, hi⟩ := hk
  unfold eqIsQuiet
  refine wpAny_bind (wpAny_specialOf hT F.slot_tuple_eq.lookup ?_)
  show wpAny _ _ (isInstance (.ref a) (.type "tuple") >>= _) _ _ s
  refine wpAny_bind (wpAny_isInstance hT isSubtype_tuple_tuple ?_)
  simp only [Bool.not_true, Bool.false_eq_true, if_false]
  refine wpAny_bind (wpAny_seqItems ho hd ?_)
  refine wpAny_bind ?_
  show wpAny _ _ (forIn items _ _) _ _ s
  rw [← Array.forIn_toList]
  refine wpAny_forIn_list _ (fun rest r s' => r.1 = none ∧ s' = s ∧ ∃ left, Items2 prog w s.heap left rest) _ ?_ ?_ _ _ ⟨rfl, rfl, ks, hi⟩
  · rintro v rest r s' ⟨hr, rfl, left, hl⟩
    cases hl with
    | @cons k _ ks' _ h1 hl' =>
      refine wpAny_bind (item_quiet h1 ?_)
      simp only [Bool.not_true, Bool.false_eq_true, if_false]
      exact wpAny_pure ⟨rfl, rfl, ks', hl'⟩
  · rintro ⟨r1, r2⟩ s' ⟨hr, rfl, _⟩
    simp only at hr
    subst hr
    exact wpAny_pure h
/-- a key of a tuple of keys and further keys -/
abbrev K2 : Type := List Key × List Key
def K2.items (k : K2) : List Key2 := .inr k.1 :: k.2.map .inl
theorem K2.sh (x y : K2) : Sh x.items y.items := by
  unfold Sh K2.items
  intro p hp
  simp only [List.zip_cons_cons] at hp
  rcases List.mem_cons.mp hp with z | z
  · rw [z]; rfl
  · rw [List.zip_map] at z
    obtain ⟨q, _, e⟩ := List.mem_map.mp z
    rw [← e]; rfl
theorem K2.items_inj {x y : K2} (h : x.items = y.items) : x = y := by
  obtain ⟨a, b⟩ := x
  obtain ⟨c, d⟩ := y
  unfold K2.items at h
  obtain ⟨h1, h2⟩ := List.cons.inj h
  have e1 : a = c := Sum.inr.inj h1
  have e2 : b = d := (List.map_inj_right (fun _ _ z => Sum.inl.inj z)).mp h2
  rw [e1, e2]
def nestKind (prog : Program) (w : World) : HeapKind prog w K2 where
  is := fun h k a => IsKey2 prog w h k.items a
  hash := fun k => hash2 prog w k.items
  draws := fun k => draws2 k.items
  room := fun A => A.units + 1 < cLine
  inj := fun hx hy => K2.items_inj (key2_inj hx hy)
  keeps := fun x ho hd hs => key2_keeps x ho hd hs
  pyHash := fun hu hk h => hash_key2 hu hk h
  eqBool := fun {A E s x y a b Q} hu hx hy h => eq_key2 hu (K2.sh x y) hx hy (by
    have e : decide (x.items = y.items) = decide (x = y) := by
      by_cases q : x = y
      · subst q; simp
      · rw [decide_eq_false q, decide_eq_false (fun z => q (K2.items_inj z))]
    rw [e]; exact h)
  quiet := fun hk h => quiet_key2 hk h
end
end Mi

set_option Elab.async false
set_option linter.all false
set_option maxRecDepth 100000
set_option maxHeartbeats 2000000
/-! MiQ: dicts with such keys, tracked: made, read, asked, written. -/
namespace Mi
open PySem L2
/-- the dict's object: its entries, their keys' tuples by address -/
def NObj (P : Program) (w : World) (a : Addr) (xs : List (K2 × Addr × Value)) : HO := .ext fun h => (a == sysModules) = false ∧ xs.length ≤ sizeLine ∧
  ∃ o es ep, h.get? a = some o ∧ o.ExactDict ∧ o.data = .dict es ep ∧ es.toList = xs.map (entryOfKey (nestKind P w)) ∧ (xs.map (·.1)).Nodup
/-- the tuple at b is the key k -/
def NKey (K : PySem.W.Frag) (H : Hp) (k : K2) (b : Addr) : Prop := ∃ t, SqT K H b (.ref t :: k.2.map kV) ∧ SqT K H t (k.1.map kV)
def NKeys (K : PySem.W.Frag) (H : Hp) (xs : List (K2 × Addr × Value)) : Prop := ∀ x ∈ xs, NKey K H x.1 x.2.1
section
variable {X : Cx} {pins : List (Addr × Obj)} {σ : St} {H : Hp} {s : Shared} {a b : Addr} {k : K2} {xs : List (K2 × Addr × Value)}
theorem flat_key {ks : List Key} (I : Inv X pins σ H s) (h : SqT X.K H a (ks.map kV)) : IsTupleKey (mixKind X.prog X.w) s.heap ks a := by
  obtain ⟨its, r, ⟨o, ho, hc, n, hd⟩, _⟩ := I.tuple h
  exact ⟨o, its.toArray, n, ho, hc, hd, by simpa using items_are r⟩
theorem key2_of (I : Inv X pins σ H s) (h : NKey X.K H k b) : (nestKind X.prog X.w).is s.heap k b := by
  obtain ⟨t, h1, h2⟩ := h
  obtain ⟨its, r, ⟨o, ho, hc, n, hd⟩, _⟩ := I.tuple h1
  refine ⟨o, its.toArray, n, ho, hc, hd, ?_⟩
  rw [List.toList_toArray]
  cases r with
  | @cons _ u _ us r1 r2 =>
    cases r1
    refine .cons ⟨t, rfl, flat_key I h2⟩ ?_
    have go : ∀ {ks : List Key} {vs : List Value}, Vals (ks.map kV) vs → Items2 X.prog X.w s.heap (ks.map .inl) vs := by
      intro ks
      induction ks with
      | nil => intro vs r; cases r; exact .nil
      | cons k ks ih =>
        intro vs r
        cases r with
        | cons h t => exact .cons (kV_is h) (ih t)
    exact go r2
theorem nd_of (I : Inv X pins σ H s) (e : H a = some (NObj X.prog X.w a xs)) (hk : NKeys X.K H xs) : (a == sysModules) = false ∧ xs.length ≤ sizeLine ∧ s.heap.DictOfH (nestKind X.prog X.w) a xs := by
  obtain ⟨⟨h1, h2, o, es, ep, g1, g2, g3, g4, g5⟩, _, _⟩ := (show ObjOk X.prog X.w H s.heap a (NObj X.prog X.w a xs) from I.hok a _ e)
  exact ⟨h1, h2, o, es, ep, g1, g2, g3, g4, fun x hx => key2_of I (hk x hx), g5⟩
theorem nobj_ok {P : Program} {w : World} {H : Hp} {h : Heap} (h1 : (a == sysModules) = false) (h2 : xs.length ≤ sizeLine) {o : Obj} {es ep} (g1 : h.get? a = some o) (g2 : o.ExactDict) (g3 : o.data = .dict es ep) (g4 : es.toList = xs.map (entryOfKey (nestKind P w))) (g5 : (xs.map (·.1)).Nodup) :
    ObjOk P w H h a (NObj P w a xs) :=
  ⟨⟨h1, h2, o, es, ep, g1, g2, g3, g4, g5⟩, ⟨o, g1⟩, fun ha hb ⟨h1, h2, o, es, ep, g1, g2, g3, g4, g5⟩ st => ⟨h1, h2, o, es, ep, st _ g1, g2, g3, g4, g5⟩⟩
theorem room2 {A : Around} (hu : A.units + 2 < cLine) : (nestKind X.prog X.w).room A.in1 := hu
variable {A : Around} {E : Value → Shared → Prop}
theorem n_get {w : Value} {Q : Value → Shared → Prop} (hu : A.units + 2 < cLine) (I : Inv X pins σ H s) (e : H a = some (NObj X.prog X.w a xs)) (hk : NKeys X.K H xs) (kb : NKey X.K H k b) (hw : (atKey xs k).map (·.2) = some w) (h : ∀ s', Inv X pins σ H s' → Q w s') :
    wpAny (model X.prog X.w) A (getItem (.ref a) (.ref b)) Q E s := by
  obtain ⟨_, _, dd⟩ := nd_of I e hk
  obtain ⟨p, hp, hp2⟩ := Option.map_eq_some_iff.mp hw
  refine wpAny_getItem_heap (room2 hu) (key2_of I kb) dd hp ?_
  rw [hp2]
  exact h _ (I.tok _)
theorem n_in {Q : Value → Shared → Prop} (hu : A.units + 2 < cLine) (I : Inv X pins σ H s) (e : H a = some (NObj X.prog X.w a xs)) (hk : NKeys X.K H xs) (kb : NKey X.K H k b) (h : ∀ s', Inv X pins σ H s' → Q (.bool (atKey xs k).isSome) s') :
    wpAny (model X.prog X.w) A (compareOp .In (.ref b) (.ref a)) Q E s := by
  obtain ⟨hd, _, dd⟩ := nd_of I e hk
  exact wpAny_in_heap (room2 hu) (key2_of I kb) hd dd (h _ (I.tok _))
theorem n_notIn {Q : Value → Shared → Prop} (hu : A.units + 2 < cLine) (I : Inv X pins σ H s) (e : H a = some (NObj X.prog X.w a xs)) (hk : NKeys X.K H xs) (kb : NKey X.K H k b) (h : ∀ s', Inv X pins σ H s' → Q (.bool (!(atKey xs k).isSome)) s') :
    wpAny (model X.prog X.w) A (compareOp .NotIn (.ref b) (.ref a)) Q E s := by
  obtain ⟨hd, _, dd⟩ := nd_of I e hk
  exact PyProof.Rows.wpAny_notIn_heap (room2 hu) (key2_of I kb) hd dd (h _ (I.tok _))
theorem stored_len {k : K2} {b : Addr} {u : Value} : (storedH xs k b u).length ≤ xs.length + 1 := by
  unfold storedH
  split
  · rw [List.length_map]; omega
  · simp
theorem n_put {u : Value} {Q : Unit → Shared → Prop} (hu : A.units + 2 < cLine) (I : Inv X pins σ H s) (e : H a = some (NObj X.prog X.w a xs)) (hk : NKeys X.K H xs) (kb : NKey X.K H k b) (hl : xs.length < sizeLine)
    (h : ∀ s', Inv X pins σ (upd H a (NObj X.prog X.w a (storedH xs k b u))) s' → Q () s') : wpAny (model X.prog X.w) A (setItem (.ref a) (.ref b) u) Q E s := by
  obtain ⟨hd, hz, dd⟩ := nd_of I e hk
  refine wpAny_setItem_heap (hsz := hz) (room2 hu) (key2_of I kb) dd fun h' dd' hs => h _ ?_
  obtain ⟨q, es, ep, hq, h2, h3, h4, _, h5⟩ := dd'
  exact d_write I (by rw [e]; exact True.intro) hs ⟨q, hq⟩ (nobj_ok hd (Nat.le_trans stored_len hl) hq h2 h3 h4 h5)
end
/-! ### readings and rules -/
/-- d[y], y in d, y not in d, d[y] = v, {} -/
def tNGet (X : Cx) (td ty : TE) : TE := fun σ H Q => td σ H fun x H1 => ty σ H1 fun y H2 => ∃ a b k xs w v, x = .ref a ∧ y = .ref b ∧ H2 a = some (NObj X.prog X.w a xs) ∧ NKeys X.K H2 xs ∧ NKey X.K H2 k b ∧ (atKey xs k).map (·.2) = some w ∧ RelV v w ∧ Q v H2
def tNIn (X : Cx) (neg : Bool) (ty td : TE) : TE := fun σ H Q => ty σ H fun y H1 => td σ H1 fun x H2 => ∃ a b k xs, x = .ref a ∧ y = .ref b ∧ H2 a = some (NObj X.prog X.w a xs) ∧ NKeys X.K H2 xs ∧ NKey X.K H2 k b ∧ Q (.bl (if neg = true then !(atKey xs k).isSome else (atKey xs k).isSome)) H2
def sNPut (X : Cx) (td ty tv : TE) : TS := fun D σ H => tv σ H fun v H1 => td σ H1 fun x H2 => ty σ H2 fun y H3 => ∃ a b k xs, x = .ref a ∧ y = .ref b ∧ H3 a = some (NObj X.prog X.w a xs) ∧ NKeys X.K H3 xs ∧ NKey X.K H3 k b ∧ xs.length < sizeLine ∧
  ∀ u, RelV v u → D.nx σ (upd H3 a (NObj X.prog X.w a (storedH xs k b u)))
def tNNew (X : Cx) : TE := fun _ H Q => ∀ p, H p = none → Q (.ref p) (upd H p (NObj X.prog X.w p []))
section
variable {X : Cx} {o i value : Expr} {pos pos' : Pos} {td ty tv : TE}
theorem pe_nget (hu : X.A.units + 2 < cLine) (ho : PE X o td) (hi : PE X i ty) (hs : NoSl i) : PE X (.Subscript o i pos) (tNGet X td ty) := by
  refine ⟨fun pins s σ H Q I h => ?_⟩
  refine subD_of PySem.F.slot_dict_getitem.lookup hs (thn (ho.run pins s σ H _ I h) fun u s1 ⟨x, H1, I1, rx, q1⟩ => thn (hi.run pins s1 σ H1 _ I1 q1) fun iv s2 ⟨y, H2, I2, ry, a, b, k, xs, w, v, ex, ey, e, hk, kb, hw, rv, q2⟩ => ?_)
  subst ex ey
  obtain rfl : u = Value.ref a := rx
  obtain rfl : iv = Value.ref b := ry
  exact ⟨(nd_of I2 e hk).2.2.typeIs, n_get hu I2 e hk kb hw fun s3 I3 => ⟨v, H2, I3, rv, q2⟩⟩
theorem pc_nin (hu : X.A.units + 2 < cLine) (hi : PE X i ty) (ho : PE X o td) : PC X .In i o (tNIn X false ty td) := by
  refine ⟨fun pins s σ H Q I h => ?_⟩
  refine thn (hi.run pins s σ H _ I h) fun iv s1 ⟨y, H1, I1, ry, q1⟩ => thn (ho.run pins s1 σ H1 _ I1 q1) fun u s2 ⟨x, H2, I2, rx, a, b, k, xs, ex, ey, e, hk, kb, q2⟩ => ?_
  subst ex ey
  obtain rfl : u = Value.ref a := rx
  obtain rfl : iv = Value.ref b := ry
  exact n_in hu I2 e hk kb fun s3 I3 => ⟨.bl (atKey xs k).isSome, H2, I3, rfl, q2⟩
theorem pc_nnotin (hu : X.A.units + 2 < cLine) (hi : PE X i ty) (ho : PE X o td) : PC X .NotIn i o (tNIn X true ty td) := by
  refine ⟨fun pins s σ H Q I h => ?_⟩
  refine thn (hi.run pins s σ H _ I h) fun iv s1 ⟨y, H1, I1, ry, q1⟩ => thn (ho.run pins s1 σ H1 _ I1 q1) fun u s2 ⟨x, H2, I2, rx, a, b, k, xs, ex, ey, e, hk, kb, q2⟩ => ?_
  subst ex ey
  obtain rfl : u = Value.ref a := rx
  obtain rfl : iv = Value.ref b := ry
  exact n_notIn hu I2 e hk kb fun s3 I3 => ⟨.bl (!(atKey xs k).isSome), H2, I3, rfl, q2⟩
theorem ps_nput (hu : X.A.units + 2 < cLine) (ho : PE X o td) (hi : PE X i ty) (hv : PE X value tv) (hs : swapsWith value (some (.Subscript o i pos')) pos.line X.env = pure false) :
    PS X (.Assign [.Subscript o i pos'] value pos) (sNPut X td ty tv) := by
  refine ⟨fun pins s σ H D I h => ?_⟩
  refine wpAny_Assign_Subscript (thn (hv.run pins s σ H _ I h) fun r s1 ⟨v, H1, I1, rv, q1⟩ => thn (ho.run pins s1 σ H1 _ I1 q1) fun u s2 ⟨x, H2, I2, rx, q2⟩ => thn (hi.run pins s2 σ H2 _ I2 q2) fun iv s3 ⟨y, H3, I3, ry, a, b, k, xs, ex, ey, e, hk, kb, hl, q3⟩ => ?_) hs
  subst ex ey
  obtain rfl : u = Value.ref a := rx
  obtain rfl : iv = Value.ref b := ry
  exact n_put hu I3 e hk kb hl fun s4 I4 => ⟨σ, _, I4, q3 r rv⟩
theorem pe_nnew : PE X (.Dict [] [] pos) (tNNew X) := ⟨fun pins s σ H Q I h =>
  wpAny_Dict_empty ⟨.ref s.heap.objs.size, _, I.laid (a := s.heap.objs.size) (o := NObj X.prog X.w s.heap.objs.size []) (t' := s.toks) (fun _ _ q => Heap.get?_push_of_some _ q) (Nat.le_refl _)
    (nobj_ok (beq_eq_false_iff_ne.mpr (Ne.symm (Nat.ne_of_lt I.big))) (Nat.zero_le _) (Heap.get?_push_size _ rfl) ⟨rfl, rfl, rfl⟩ rfl rfl List.nodup_nil), rfl, h _ (I.hok.fresh (Nat.le_refl _))⟩⟩
end
end Mi

set_option Elab.async false
set_option linter.all false
set_option maxRecDepth 100000
set_option maxHeartbeats 2000000
/-! MiR: dicts of flat tuples, tracked: made, written, walked by their keys. -/
namespace Mi
open PySem L2
/-- the dict's object: its entries, their keys' tuples by address -/
def TObj (P : Program) (w : World) (a : Addr) (xs : List (List Key × Addr × Value)) : HO := .ext fun h => (a == sysModules) = false ∧ xs.length ≤ sizeLine ∧
  ∃ o es ep, h.get? a = some o ∧ o.ExactDict ∧ o.data = .dict es ep ∧ es.toList = xs.map (entryOfKey (tupleKind (mixKind P w))) ∧ (xs.map (·.1)).Nodup
/-- the tuple at b is the key k -/
def TKey (K : PySem.W.Frag) (H : Hp) (k : List Key) (b : Addr) : Prop := SqT K H b (k.map kV)
def TKeys (K : PySem.W.Frag) (H : Hp) (xs : List (List Key × Addr × Value)) : Prop := ∀ x ∈ xs, TKey K H x.1 x.2.1
section
variable {X : Cx} {pins : List (Addr × Obj)} {σ : St} {H : Hp} {s : Shared} {a b : Addr} {k : List Key} {xs : List (List Key × Addr × Value)}
theorem td_of (I : Inv X pins σ H s) (e : H a = some (TObj X.prog X.w a xs)) (hk : TKeys X.K H xs) : (a == sysModules) = false ∧ xs.length ≤ sizeLine ∧ s.heap.DictOfH (tupleKind (mixKind X.prog X.w)) a xs := by
  obtain ⟨⟨h1, h2, o, es, ep, g1, g2, g3, g4, g5⟩, _, _⟩ := (show ObjOk X.prog X.w H s.heap a (TObj X.prog X.w a xs) from I.hok a _ e)
  exact ⟨h1, h2, o, es, ep, g1, g2, g3, g4, fun x hx => flat_key I (hk x hx), g5⟩
theorem tobj_ok {P : Program} {w : World} {H : Hp} {h : Heap} (h1 : (a == sysModules) = false) (h2 : xs.length ≤ sizeLine) {o : Obj} {es ep} (g1 : h.get? a = some o) (g2 : o.ExactDict) (g3 : o.data = .dict es ep) (g4 : es.toList = xs.map (entryOfKey (tupleKind (mixKind P w)))) (g5 : (xs.map (·.1)).Nodup) :
    ObjOk P w H h a (TObj P w a xs) :=
  ⟨⟨h1, h2, o, es, ep, g1, g2, g3, g4, g5⟩, ⟨o, g1⟩, fun ha hb ⟨h1, h2, o, es, ep, g1, g2, g3, g4, g5⟩ st => ⟨h1, h2, o, es, ep, st _ g1, g2, g3, g4, g5⟩⟩
theorem roomT {A : Around} (hu : A.units + 2 < cLine) : (tupleKind (mixKind X.prog X.w)).room A.in1 := show A.in1.units < cLine by
  have : A.in1.units = A.units + 1 := rfl
  omega
variable {A : Around} {E : Value → Shared → Prop}
theorem stored_lenT {k : List Key} {b : Addr} {u : Value} : (storedH xs k b u).length ≤ xs.length + 1 := by
  unfold storedH
  split
  · rw [List.length_map]; omega
  · simp
theorem t_put {u : Value} {Q : Unit → Shared → Prop} (hu : A.units + 2 < cLine) (I : Inv X pins σ H s) (e : H a = some (TObj X.prog X.w a xs)) (hk : TKeys X.K H xs) (kb : TKey X.K H k b) (hl : xs.length < sizeLine)
    (h : ∀ s', Inv X pins σ (upd H a (TObj X.prog X.w a (storedH xs k b u))) s' → Q () s') : wpAny (model X.prog X.w) A (setItem (.ref a) (.ref b) u) Q E s := by
  obtain ⟨hd, hz, dd⟩ := td_of I e hk
  refine wpAny_setItem_heap (hsz := hz) (roomT hu) (flat_key I kb) dd fun h' dd' hs => h _ ?_
  obtain ⟨q, es, ep, hq, h2, h3, h4, _, h5⟩ := dd'
  exact d_write I (by rw [e]; exact True.intro) hs ⟨q, hq⟩ (tobj_ok hd (Nat.le_trans stored_lenT hl) hq h2 h3 h4 h5)
/-- locked -/
theorem frzX {d : Addr} {o : Obj} (I : Inv X pins σ H s) (h : H d = some (.frz o (TObj X.prog X.w d xs))) :
    (d == sysModules) = false ∧ s.heap.get? d = some o ∧ o.ExactDict ∧ ∃ (es : Array DictEntry) (ep : Nat), o.data = .dict es ep ∧ es.size = xs.length ∧
      ∀ (i : Nat) (x : List Key × Addr × Value), xs[i]? = some x → ∃ (en : DictEntry), es[i]? = some en ∧ en.key = .ref x.2.1 := by
  obtain ⟨hd, ⟨hs, _, o', es, ep, ho, hx, hdt, he, _⟩, _, _⟩ := (show ObjOk X.prog X.w H s.heap d (.frz o (TObj X.prog X.w d xs)) from I.hok d _ h)
  rw [hd] at ho
  cases ho
  refine ⟨hs, hd, hx, es, ep, hdt, size_of_entries he, fun i x e => ?_⟩
  have q := entry_at he i
  rw [e] at q
  exact ⟨_, q, rfl⟩
end
/-- the keys of the locked dict -/
def Itkx (P : Program) (w : World) (d : Addr) (o : Obj) (xs : List (List Key × Addr × Value)) : It :=
  ⟨fun i H => H d = some (.frz o (TObj P w d xs)) ∧ i < xs.length, fun i H x H' => H' = H ∧ ∃ y, xs[i]? = some y ∧ x = .ref y.2.1, fun i H => H d = some (.frz o (TObj P w d xs)) ∧ xs.length ≤ i⟩
section
variable {P : Program} {w : World} {K : PySem.W.Frag} {tg : Expr} {d : Addr} {o : Obj} {es : Array DictEntry} {ep : Nat}
theorem turn_keysX {xs : List (List Key × Addr × Value)} (it : Addr) (hod : o.data = .dict es ep) : Turn P w K tg (Itkx P w d o xs) [it] it (fun i h => h.IsKeyIter it d i xs.length ep) where
  mem := by simp
  obj := fun i h st b hb => by
    have e : b = it := by simpa using hb
    subst e
    obtain ⟨oi, e, c, dd⟩ := st
    exact ⟨oi, e, fun v z => by rw [dd] at z; cases z⟩
  keep := fun i h h' st k => st.at fun oi e => k it (by simp) oi e
  item := by
    intro X hP hw hK hc i pins s σ H E I hf st hg
    subst hP hw hK
    obtain ⟨hd, hi⟩ := hg
    obtain ⟨f0, f1, f2, f3, f4, f5⟩ := hf it (by simp)
    obtain ⟨hs, hgd, hx, es', ep', hdt, hsz, ent⟩ := frzX I hd
    obtain ⟨rfl, rfl⟩ := dict_ep hod hdt
    obtain ⟨en, hen, hkey⟩ := ent i xs[i] (List.getElem?_eq_getElem hi)
    refine next_key_item st hgd hdt hsz hen fun h' st' sb => ?_
    have I1 : Inv X pins σ H { s with heap := h' } := I.turned (t' := s.toks) (fun b ob hb e => (sb.2 b hb).trans e) f0 f1 f3 f4 f5
    obtain ⟨oi, e, c, dd⟩ := id st'
    exact ⟨en.key, rfl, go_of (s := { s with heap := h' }) e c dd (by decide) ⟨.ref xs[i].2.1, H, I1, hkey, ⟨rfl, xs[i], List.getElem?_eq_getElem hi, rfl⟩, st', fun b hb => (hf b hb).1⟩⟩
  done := by
    intro X hP hw hK hc i pins s σ H E I hf st hg
    subst hP hw hK
    obtain ⟨hd, hi⟩ := hg
    obtain ⟨f0, f1, f2, f3, f4, f5⟩ := hf it (by simp)
    obtain ⟨hs, hgd, hx, es', ep', hdt, hsz, ent⟩ := frzX I hd
    obtain ⟨rfl, rfl⟩ := dict_ep hod hdt
    exact next_key_end (I.ok.hd hc) st hgd hdt hsz hi fun h' eb => ⟨rfl, I.turned (t' := s.toks) (fun b ob hb e => eb b ob hb e) f0 f1 f3 f4 f5⟩
  self := fun A i s Q E st h => by
    refine wpAny_pyIter_slot st.typeIs F.slot_dict_keyiterator_iter (wpAny_call_entry F.slot_dict_keyiterator_iter st.typeIs F.entry_dict_keyiterator_iter ?_ (F.args_dict_keyiterator_iter_1 _))
    show wpAny _ _ (ret (.ref it)) _ _ s
    exact wpAny_pure ⟨_, rfl, "dict_keyiterator", _, st.typeIs, F.slot_dict_keyiterator_next.lookup, h⟩
theorem walk_keysX {xs : List (List Key × Addr × Value)} : Walk (Itkx P w d o xs) xs.length (fun H => H d = some (.frz o (TObj P w d xs)))
    (fun i H x H' => H' = H ∧ ∃ y, xs[i]? = some y ∧ x = .ref y.2.1) :=
  ⟨fun _ _ hi q => ⟨q, hi⟩, fun _ q => ⟨q, Nat.le_refl _⟩, fun _ _ _ _ _ _ y => y⟩
end
/-- for k in d: d is locked -/
def iKeysX (X : Cx) (td : TE) : TI := fun σ H R => td σ H fun x H1 => ∃ d o xs, x = .ref d ∧ H1 d = some (.frz o (TObj X.prog X.w d xs)) ∧ R (Itkx X.prog X.w d o xs) H1
/-- {k: v}; d[k] = v -/
def tTNew1 (X : Cx) (tk tv : TE) : TE := fun σ H Q => ∀ q, H q = none → tPairs [(tk, tv)] σ (upd H q (TObj X.prog X.w q [])) fun ps H2 => ∃ y v, ps = [(y, v)] ∧ ∃ b k, y = .ref b ∧ H2 q = some (TObj X.prog X.w q []) ∧ TKey X.K H2 k b ∧ ∀ u, RelV v u → Q (.ref q) (upd H2 q (TObj X.prog X.w q [(k, b, u)]))
def sTPut (X : Cx) (td ty tv : TE) : TS := fun D σ H => tv σ H fun v H1 => td σ H1 fun x H2 => ty σ H2 fun y H3 => ∃ a b k xs, x = .ref a ∧ y = .ref b ∧ H3 a = some (TObj X.prog X.w a xs) ∧ TKeys X.K H3 xs ∧ TKey X.K H3 k b ∧ xs.length < sizeLine ∧
  ∀ u, RelV v u → D.nx σ (upd H3 a (TObj X.prog X.w a (storedH xs k b u)))
def tTNew (X : Cx) : TE := fun _ H Q => ∀ p, H p = none → Q (.ref p) (upd H p (TObj X.prog X.w p []))
section
variable {X : Cx} {tg e : Expr} {o i value : Expr} {pos pos' : Pos} {td ty tv : TE}
theorem pi_keysX (he : PE X e td) : PI X tg e (iKeysX X td) := by
  refine ⟨fun pins s σ H R I h => ?_⟩
  refine thn (he.run pins s σ H _ I h) fun u s1 ⟨x, H1, I1, rx, d, o, xs, ex, hd, q⟩ => ?_
  subst ex
  obtain rfl : u = Value.ref d := rx
  obtain ⟨hs, hgd, hx, es, ep, hdt, hsz, ent⟩ := frzX I1 hd
  refine iter_keys hs hgd hx hdt (pi_one (tk := s1.toks) I1 _ (turn_keysX _ hdt) ⟨_, Heap.get?_push_size _ rfl, rfl, ?_⟩ q)
  rw [hsz] <;> rfl
theorem ps_tput (hu : X.A.units + 2 < cLine) (ho : PE X o td) (hi : PE X i ty) (hv : PE X value tv) (hs : swapsWith value (some (.Subscript o i pos')) pos.line X.env = pure false) :
    PS X (.Assign [.Subscript o i pos'] value pos) (sTPut X td ty tv) := by
  refine ⟨fun pins s σ H D I h => ?_⟩
  refine wpAny_Assign_Subscript (thn (hv.run pins s σ H _ I h) fun r s1 ⟨v, H1, I1, rv, q1⟩ => thn (ho.run pins s1 σ H1 _ I1 q1) fun u s2 ⟨x, H2, I2, rx, q2⟩ => thn (hi.run pins s2 σ H2 _ I2 q2) fun iv s3 ⟨y, H3, I3, ry, a, b, k, xs, ex, ey, e, hk, kb, hl, q3⟩ => ?_) hs
  subst ex ey
  obtain rfl : u = Value.ref a := rx
  obtain rfl : iv = Value.ref b := ry
  exact t_put hu I3 e hk kb hl fun s4 I4 => ⟨σ, _, I4, q3 r rv⟩
theorem new_obj {pins : List (Addr × Obj)} {σ : St} {H : Hp} {s : Shared} (I : Inv X pins σ H s) : Inv X pins σ (upd H s.heap.objs.size (TObj X.prog X.w s.heap.objs.size [])) { s with heap := s.heap.push { cls := .type "dict", data := .dict #[] } } :=
  I.laid (a := s.heap.objs.size) (o := TObj X.prog X.w s.heap.objs.size []) (t' := s.toks) (fun _ _ q => Heap.get?_push_of_some _ q) (Nat.le_refl _)
    (tobj_ok (beq_eq_false_iff_ne.mpr (Ne.symm (Nat.ne_of_lt I.big))) (Nat.zero_le _) (Heap.get?_push_size _ rfl) ⟨rfl, rfl, rfl⟩ rfl rfl List.nodup_nil)
theorem pe_tnew : PE X (.Dict [] [] pos) (tTNew X) := ⟨fun pins s σ H Q I h =>
  wpAny_Dict_empty ⟨.ref s.heap.objs.size, _, new_obj I, rfl, h _ (I.hok.fresh (Nat.le_refl _))⟩⟩
theorem pe_tnew1 (hu : X.A.units + 2 < cLine) (hk : PE X i ty) (hv : PE X value tv) : PE X (.Dict [some i] [value] pos) (tTNew1 X ty tv) := by
  refine ⟨fun pins s σ H Q I h => ?_⟩
  have hq := I.hok.fresh (Nat.le_refl s.heap.objs.size)
  refine wpAny_Dict_any rfl rfl (by simp) (by simp) ?_
  refine thn ((pps_cons hk hv pps_nil).run pins _ σ _ _ (new_obj I) (h _ hq)) fun ws s2 ⟨ps, H2, I2, rel, y, v, ep, b, k, ey, e, kb, q2⟩ => ?_
  subst ep ey
  cases rel with
  | @cons _ w _ ws r1 r2 =>
    cases r2
    obtain ⟨w1, w2⟩ := w
    obtain ⟨r1, r3⟩ := r1
    obtain rfl : w1 = Value.ref b := r1
    obtain ⟨hd, hz, dd⟩ := td_of I2 e (fun x hx => by cases hx)
    refine PySem.wpAny_storeAllH (knd := tupleKind (mixKind X.prog X.w)) (d := s.heap.objs.size) (show X.A.units < cLine by omega) [(Value.ref b, w2)] [(k, b, w2)] [] s2 _ ⟨rfl, rfl, flat_key I2 kb, trivial⟩ dd (show 1 ≤ sizeLine from by decide) fun h' tk dd' hs => ?_
    obtain ⟨q, es, ep, hq', h2, h3, h4, _, h5⟩ := dd'
    exact ⟨.ref s.heap.objs.size, _, d_write I2 (by rw [e]; exact True.intro) hs ⟨q, hq'⟩ (tobj_ok (xs := [(k, b, w2)]) hd (show 1 ≤ sizeLine from by decide) hq' h2 h3 h4 h5), rfl, q2 w2 r3⟩
end
end Mi

set_option Elab.async false
set_option linter.all false
set_option maxRecDepth 100000
set_option maxHeartbeats 200000
/-! Mi1: data, the small heap, how they stand for values and the abstract heap. -/
namespace Mi
open PySem L2

/-- a datum: None, a bool, an int, a text, a tuple, a list that is only read, a finished sale, an object by its number -/
inductive D where
  | non | bl (b : Bool) | int (i : Int) | str (s : Str) | tup (ds : List D) | lsF (ds : List D) | sale (a b : Str) | obj (i : Nat) | adr (a : Nat)

/-- an object: a list; dicts by flat tuples, by ints and texts, by nested tuples; a locked dict; an instance of the n-th class -/
inductive O where
  | lst (ds : List D) | dT (kvs : List (List Key × D)) | dK (kvs : List (Key × D)) | dN (kvs : List (K2 × D)) | dL (kvs : List (List Key × D)) | ins (c : Nat) (fs : List (Str × D))

/-- what an exception is: the number of its class, its fields -/
structure Xc where
  c : Nat
  fs : List (Str × D)

inductive Out (α : Type) where
  | ok (a : α) (h : List O) | exc (x : Xc) (h : List O) | stuck

@[inline] def Out.bind {α β : Type} (o : Out α) (f : α → List O → Out β) : Out β :=
  match o with
  | .ok a h => f a h
  | .exc x h => .exc x h
  | .stuck => .stuck
@[simp] theorem Out.bind_ok {α β : Type} (a : α) (h : List O) (f : α → List O → Out β) : (Out.ok a h).bind f = f a h := rfl
@[simp] theorem Out.bind_exc {α β : Type} (x : Xc) (h : List O) (f : α → List O → Out β) : (Out.exc x h).bind f = .exc x h := rfl
@[simp] theorem Out.bind_stuck {α β : Type} (f : α → List O → Out β) : (Out.stuck).bind f = .stuck := rfl

/-- where the classes stand: the sale's class, the others' by number -/
structure Cl where
  /-- the program, the world: a dict of nested keys is known by them -/
  prog : Program
  w : World
  sale : Addr
  at_ : Nat → Addr
  ne : ∀ c, at_ c ≠ sale

def H0 : Hp := fun _ => none
def saleF (a b : Str) : List (Str × V) := putF "favoured" (.str b) (putF "taker" (.str a) [])
/-- a tuple, a list that stays: tracked apart from the heap's objects, or written -/
def TupS (K : PySem.W.Frag) (ρ : List Addr) (H : Hp) (p : Addr) (vs : List V) : Prop := (Rd H p (.tup vs) ∧ p ∉ ρ) ∨ SqT K H0 p vs
def LstS (K : PySem.W.Frag) (ρ : List Addr) (H : Hp) (p : Addr) (vs : List V) : Prop := (Rd H p (.lst vs) ∧ p ∉ ρ) ∨ SqL K H0 p vs
theorem noRd {p : Addr} {u : HO} (h : Rd H0 p u) : False := by
  rcases h with h | ⟨o, h⟩ <;> cases h
theorem TupS.sq {K : PySem.W.Frag} {ρ : List Addr} {H : Hp} {p : Addr} {vs : List V} (h : TupS K ρ H p vs) : SqT K H p vs := by
  rcases h with ⟨h, _⟩ | h | h
  · exact .inl h
  · exact (noRd h).elim
  · exact .inr h
theorem LstS.sq {K : PySem.W.Frag} {ρ : List Addr} {H : Hp} {p : Addr} {vs : List V} (h : LstS K ρ H p vs) : SqL K H p vs := by
  rcases h with ⟨h, _⟩ | h | h
  · exact .inl h
  · exact (noRd h).elim
  · exact .inr h

/-- from one heap to a later one: what stands apart stays, new numbers for new addresses -/
structure Fr (ρ : List Addr) (H : Hp) (ρ' : List Addr) (H' : Hp) : Prop where
  keep : ∀ b o, H b = some o → b ∉ ρ → H' b = some o
  free : ∀ b, H' b = none → H b = none
  ext : ∃ new, ρ' = ρ ++ new ∧ ∀ a ∈ new, H a = none
  lock : ∀ b o u, H b = some (.frz o u) → H' b = some (.frz o u)
theorem Fr.refl (ρ : List Addr) (H : Hp) : Fr ρ H ρ H := ⟨fun _ _ h _ => h, fun _ h => h, ⟨[], by simp, by simp⟩, fun _ _ _ h => h⟩
theorem Fr.out {ρ ρ' : List Addr} {H H' : Hp} (f : Fr ρ H ρ' H') {b : Addr} {o : HO} (h : H b = some o) (n : b ∉ ρ) : b ∉ ρ' := by
  obtain ⟨new, rfl, hn⟩ := f.ext
  intro hm
  rcases List.mem_append.mp hm with z | z
  · exact n z
  · rw [hn b z] at h; cases h
theorem Fr.trans {ρ ρ1 ρ2 : List Addr} {H H1 H2 : Hp} (f : Fr ρ H ρ1 H1) (g : Fr ρ1 H1 ρ2 H2) : Fr ρ H ρ2 H2 := by
  refine ⟨fun b o h n => g.keep b o (f.keep b o h n) (f.out h n), fun b h => f.free b (g.free b h), ?_, fun b o u h => g.lock b o u (f.lock b o u h)⟩
  obtain ⟨n1, e1, h1⟩ := f.ext
  obtain ⟨n2, e2, h2⟩ := g.ext
  refine ⟨n1 ++ n2, by rw [e2, e1, List.append_assoc], fun a ha => ?_⟩
  rcases List.mem_append.mp ha with z | z
  · exact h1 a z
  · exact f.free a (h2 a z)
theorem Fr.rd {ρ ρ' : List Addr} {H H' : Hp} (f : Fr ρ H ρ' H') {b : Addr} {u : HO} (h : Rd H b u) (n : b ∉ ρ) : Rd H' b u ∧ b ∉ ρ' := by
  rcases h with h | ⟨o, h⟩
  · exact ⟨.inl (f.keep b _ h n), f.out h n⟩
  · exact ⟨.inr ⟨o, f.keep b _ h n⟩, f.out h n⟩
theorem TupS.mono {K : PySem.W.Frag} {ρ ρ' : List Addr} {H H' : Hp} {p : Addr} {vs : List V} (f : Fr ρ H ρ' H') (h : TupS K ρ H p vs) : TupS K ρ' H' p vs := by
  rcases h with ⟨h, n⟩ | h
  · exact .inl (f.rd h n)
  · exact .inr h
theorem LstS.mono {K : PySem.W.Frag} {ρ ρ' : List Addr} {H H' : Hp} {p : Addr} {vs : List V} (f : Fr ρ H ρ' H') (h : LstS K ρ H p vs) : LstS K ρ' H' p vs := by
  rcases h with ⟨h, n⟩ | h
  · exact .inl (f.rd h n)
  · exact .inr h

section
variable (K : PySem.W.Frag) (C : Cl)
mutual
def Rep (ρ : List Addr) (H : Hp) : D → V → Prop
  | .non, v => v = .non
  | .bl b, v => v = .bl b
  | .int i, v => v = .int i
  | .str s, v => v = .str s
  | .tup ds, v => ∃ p vs, v = .ref p ∧ TupS K ρ H p vs ∧ Reps ρ H ds vs
  | .lsF ds, v => ∃ p vs, v = .ref p ∧ LstS K ρ H p vs ∧ Reps ρ H ds vs
  | .sale a b, v => ∃ p dx, v = .ref p ∧ H p = some (.ins C.sale dx (saleF a b)) ∧ p ∉ ρ
  | .obj i, v => ∃ a, ρ[i]? = some a ∧ v = .ref a
  | .adr a, v => v = .ref a
def Reps (ρ : List Addr) (H : Hp) : List D → List V → Prop
  | [], vs => vs = []
  | d :: ds, vs => ∃ v us, vs = v :: us ∧ Rep ρ H d v ∧ Reps ρ H ds us
end
end
section
variable {K : PySem.W.Frag} {C : Cl} {ρ ρ' : List Addr} {H H' : Hp}
mutual
theorem Rep.mono (f : Fr ρ H ρ' H') : ∀ {d : D} {v : V}, Rep K C ρ H d v → Rep K C ρ' H' d v
  | .non, _, h => by rw [Rep] at h ⊢; exact h
  | .bl _, _, h => by rw [Rep] at h ⊢; exact h
  | .int _, _, h => by rw [Rep] at h ⊢; exact h
  | .str _, _, h => by rw [Rep] at h ⊢; exact h
  | .tup ds, _, h => by
    rw [Rep] at h ⊢
    obtain ⟨p, vs, e, t, r⟩ := h
    exact ⟨p, vs, e, t.mono f, Reps.mono f r⟩
  | .lsF ds, _, h => by
    rw [Rep] at h ⊢
    obtain ⟨p, vs, e, t, r⟩ := h
    exact ⟨p, vs, e, t.mono f, Reps.mono f r⟩
  | .adr a, _, h => by rw [Rep] at h ⊢; exact h
  | .sale a b, _, h => by
    rw [Rep] at h ⊢
    obtain ⟨p, dx, e, t, n⟩ := h
    exact ⟨p, dx, e, f.keep _ _ t n, f.out t n⟩
  | .obj i, _, h => by
    rw [Rep] at h ⊢
    obtain ⟨a, e, r⟩ := h
    obtain ⟨new, rfl, _⟩ := f.ext
    exact ⟨a, by rw [List.getElem?_append_left (List.getElem?_eq_some_iff.mp e).1]; exact e, r⟩
theorem Reps.mono (f : Fr ρ H ρ' H') : ∀ {ds : List D} {vs : List V}, Reps K C ρ H ds vs → Reps K C ρ' H' ds vs
  | [], _, h => by rw [Reps] at h ⊢; exact h
  | d :: ds, _, h => by
    rw [Reps] at h ⊢
    obtain ⟨v, us, e, a, b⟩ := h
    exact ⟨v, us, e, Rep.mono f a, Reps.mono f b⟩
end
theorem Reps.length : ∀ {ds : List D} {vs : List V}, Reps K C ρ H ds vs → vs.length = ds.length
  | [], _, h => by rw [Reps] at h; subst h; rfl
  | d :: ds, vs, h => by
    rw [Reps] at h
    obtain ⟨v, us, rfl, _, hr⟩ := h
    simp [Reps.length hr]
theorem Reps.nil : Reps K C ρ H [] [] := by rw [Reps]
theorem Reps.cons {d : D} {ds : List D} {v : V} {vs : List V} (a : Rep K C ρ H d v) (b : Reps K C ρ H ds vs) : Reps K C ρ H (d :: ds) (v :: vs) := by
  rw [Reps]; exact ⟨v, vs, rfl, a, b⟩
theorem Reps.append : ∀ {ds es : List D} {vs us : List V}, Reps K C ρ H ds vs → Reps K C ρ H es us → Reps K C ρ H (ds ++ es) (vs ++ us)
  | [], _, _, _, h, g => by rw [Reps] at h; subst h; exact g
  | d :: ds, _, _, _, h, g => by
    rw [Reps] at h
    obtain ⟨v, us, rfl, a, b⟩ := h
    exact Reps.cons a (Reps.append b g)
theorem Reps.get : ∀ {ds : List D} {vs : List V} {i : Nat} {d : D}, Reps K C ρ H ds vs → ds[i]? = some d → ∃ v, vs[i]? = some v ∧ Rep K C ρ H d v
  | [], _, _, _, _, e => by simp at e
  | d :: ds, _, 0, _, h, e => by
    rw [Reps] at h
    obtain ⟨v, us, rfl, a, b⟩ := h
    simp at e; subst e
    exact ⟨v, rfl, a⟩
  | d :: ds, _, i + 1, _, h, e => by
    rw [Reps] at h
    obtain ⟨v, us, rfl, a, b⟩ := h
    obtain ⟨u, h1, h2⟩ := Reps.get (i := i) b (by simpa using e)
    exact ⟨u, by simpa using h1, h2⟩
theorem Reps.set : ∀ {ds : List D} {vs : List V} (i : Nat) {d : D} {v : V}, Reps K C ρ H ds vs → Rep K C ρ H d v → Reps K C ρ H (ds.set i d) (vs.set i v)
  | [], _, _, _, _, h, _ => by rw [Reps] at h; subst h; exact Reps.nil
  | d :: ds, _, 0, _, _, h, r => by
    rw [Reps] at h
    obtain ⟨v, us, rfl, a, b⟩ := h
    exact Reps.cons r b
  | d :: ds, _, i + 1, _, _, h, r => by
    rw [Reps] at h
    obtain ⟨v, us, rfl, a, b⟩ := h
    exact Reps.cons a (Reps.set i b r)
theorem Reps.take : ∀ {ds : List D} {vs : List V} (n : Nat), Reps K C ρ H ds vs → Reps K C ρ H (ds.take n) (vs.take n)
  | _, _, 0, _ => by simp; exact Reps.nil
  | [], _, n + 1, h => by rw [Reps] at h; subst h; simp; exact Reps.nil
  | d :: ds, _, n + 1, h => by
    rw [Reps] at h
    obtain ⟨v, us, rfl, a, b⟩ := h
    exact Reps.cons a (Reps.take n b)
theorem Reps.drop : ∀ {ds : List D} {vs : List V} (n : Nat), Reps K C ρ H ds vs → Reps K C ρ H (ds.drop n) (vs.drop n)
  | _, _, 0, h => by simpa using h
  | [], _, n + 1, h => by rw [Reps] at h; subst h; simp; exact Reps.nil
  | d :: ds, _, n + 1, h => by
    rw [Reps] at h
    obtain ⟨v, us, rfl, a, b⟩ := h
    simpa using Reps.drop n b
theorem Reps.reverse : ∀ {ds : List D} {vs : List V}, Reps K C ρ H ds vs → Reps K C ρ H ds.reverse vs.reverse
  | [], _, h => by rw [Reps] at h; subst h; exact Reps.nil
  | d :: ds, _, h => by
    rw [Reps] at h
    obtain ⟨v, us, rfl, a, b⟩ := h
    rw [List.reverse_cons, List.reverse_cons]
    exact Reps.append (Reps.reverse b) (Reps.cons a Reps.nil)
end

/-! ### the heap's objects -/
def KVs {κ : Type} (K : PySem.W.Frag) (C : Cl) (ρ : List Addr) (H : Hp) (l : List (κ × D)) (m : List (κ × V)) : Prop := Paired (fun p q => p.1 = q.1 ∧ Rep K C ρ H p.2 q.2) l m
theorem KVs.mono {κ : Type} {K : PySem.W.Frag} {C : Cl} {ρ ρ' : List Addr} {H H' : Hp} {l : List (κ × D)} {m : List (κ × V)} (f : Fr ρ H ρ' H') (h : KVs K C ρ H l m) : KVs K C ρ' H' l m :=
  Paired.mapP h fun _ _ z => ⟨z.1, z.2.mono f⟩
/-- a nested key's tuple -/
def NKeyR (K : PySem.W.Frag) (ρ : List Addr) (H : Hp) (k : K2) (b : Addr) : Prop := ∃ t, TupS K ρ H b (.ref t :: k.2.map kV) ∧ TupS K ρ H t (k.1.map kV)
theorem NKeyR.mono {K : PySem.W.Frag} {ρ ρ' : List Addr} {H H' : Hp} {k : K2} {b : Addr} (f : Fr ρ H ρ' H') (h : NKeyR K ρ H k b) : NKeyR K ρ' H' k b := by
  obtain ⟨t, h1, h2⟩ := h
  exact ⟨t, h1.mono f, h2.mono f⟩
theorem NKeyR.key {K : PySem.W.Frag} {ρ : List Addr} {H : Hp} {k : K2} {b : Addr} (h : NKeyR K ρ H k b) : NKey K H k b := by
  obtain ⟨t, h1, h2⟩ := h
  exact ⟨t, h1.sq, h2.sq⟩
/-- what stands for an entry -/
def NEnt (K : PySem.W.Frag) (C : Cl) (ρ : List Addr) (H : Hp) (p : K2 × D) (q : K2 × Addr × Value) : Prop := p.1 = q.1 ∧ NKeyR K ρ H q.1 q.2.1 ∧ ∃ v, RelV v q.2.2 ∧ Rep K C ρ H p.2 v
/-- a nested dict's object -/
def NDict (K : PySem.W.Frag) (C : Cl) (ρ : List Addr) (H : Hp) (a : Addr) (kvs : List (K2 × D)) : Prop := ∃ xs, H a = some (NObj C.prog C.w a xs) ∧ Paired (NEnt K C ρ H) kvs xs
theorem NEnt.mono {K : PySem.W.Frag} {C : Cl} {ρ ρ' : List Addr} {H H' : Hp} {p : K2 × D} {q : K2 × Addr × Value} (f : Fr ρ H ρ' H') (h : NEnt K C ρ H p q) : NEnt K C ρ' H' p q := by
  obtain ⟨h1, h2, v, h3, h4⟩ := h
  exact ⟨h1, h2.mono f, v, h3, h4.mono f⟩
/-- a flat dict's entries, its object -/
def TEnt (K : PySem.W.Frag) (C : Cl) (ρ : List Addr) (H : Hp) (p : List Key × D) (q : List Key × Addr × Value) : Prop := p.1 = q.1 ∧ TupS K ρ H q.2.1 (q.1.map kV) ∧ ∃ v, RelV v q.2.2 ∧ Rep K C ρ H p.2 v
def TDict (K : PySem.W.Frag) (C : Cl) (ρ : List Addr) (H : Hp) (a : Addr) (kvs : List (List Key × D)) : Prop := ∃ xs, H a = some (TObj C.prog C.w a xs) ∧ Paired (TEnt K C ρ H) kvs xs
def LDict (K : PySem.W.Frag) (C : Cl) (ρ : List Addr) (H : Hp) (a : Addr) (kvs : List (List Key × D)) : Prop := ∃ o xs, H a = some (.frz o (TObj C.prog C.w a xs)) ∧ Paired (TEnt K C ρ H) kvs xs
theorem TEnt.mono {K : PySem.W.Frag} {C : Cl} {ρ ρ' : List Addr} {H H' : Hp} {p : List Key × D} {q : List Key × Addr × Value} (f : Fr ρ H ρ' H') (h : TEnt K C ρ H p q) : TEnt K C ρ' H' p q := by
  obtain ⟨h1, h2, v, h3, h4⟩ := h
  exact ⟨h1, h2.mono f, v, h3, h4.mono f⟩
def RelO (K : PySem.W.Frag) (C : Cl) (ρ : List Addr) (H : Hp) (a : Addr) : O → Prop
  | .lst ds => ∃ vs, H a = some (.lst vs) ∧ Reps K C ρ H ds vs
  | .dT kvs => TDict K C ρ H a kvs
  | .dK kvs => ∃ ws, H a = some (.dK ws) ∧ KVs K C ρ H kvs ws
  | .dN kvs => NDict K C ρ H a kvs
  | .dL kvs => LDict K C ρ H a kvs
  | .ins c fs => ∃ dx gs, H a = some (.ins (C.at_ c) dx gs) ∧ KVs K C ρ H fs gs
/-- what may stand at an address of ours -/
def Mine (C : Cl) : HO → Prop
  | .lst _ => True
  | .dK _ => True
  | .ext _ => True
  | .frz _ (.ext _) => True
  | .ins c _ _ => c ≠ C.sale
  | _ => False
structure RelH (K : PySem.W.Frag) (C : Cl) (ρ : List Addr) (H : Hp) (h : List O) : Prop where
  len : ρ.length = h.length
  nd : ρ.Nodup
  at_ : ∀ (i : Nat) (a : Addr) (o : O), ρ[i]? = some a → h[i]? = some o → RelO K C ρ H a o
section
variable {K : PySem.W.Frag} {C : Cl} {ρ ρ' : List Addr} {H H' : Hp} {h h' : List O}
theorem RelO.there {a : Addr} {o : O} (r : RelO K C ρ H a o) : ∃ u, H a = some u ∧ Mine C u := by
  cases o with
  | lst ds => obtain ⟨vs, e, _⟩ := r; exact ⟨_, e, trivial⟩
  | dT kvs => obtain ⟨vs, e, _⟩ := r; exact ⟨_, e, trivial⟩
  | dK kvs => obtain ⟨vs, e, _⟩ := r; exact ⟨_, e, trivial⟩
  | dN kvs => obtain ⟨xs, e, _⟩ := r; exact ⟨_, e, trivial⟩
  | dL kvs => obtain ⟨z, vs, e, _⟩ := r; exact ⟨_, e, trivial⟩
  | ins c fs => obtain ⟨dx, vs, e, _⟩ := r; exact ⟨_, e, C.ne c⟩
theorem RelH.there (R : RelH K C ρ H h) {a : Addr} (ha : a ∈ ρ) : ∃ o, RelO K C ρ H a o := by
  obtain ⟨i, hi⟩ := List.mem_iff_getElem?.mp ha
  have hl : i < h.length := by rw [← R.len]; exact (List.getElem?_eq_some_iff.mp hi).1
  exact ⟨h[i], R.at_ i a _ hi (List.getElem?_eq_getElem hl)⟩
theorem RelH.notin (R : RelH K C ρ H h) {a : Addr} (ha : H a = none) : a ∉ ρ := fun hm => by
  obtain ⟨o, r⟩ := R.there hm
  obtain ⟨u, e, _⟩ := r.there
  rw [ha] at e; cases e
theorem RelH.nil : RelH K C [] H [] := ⟨rfl, List.nodup_nil, fun _ _ _ h => by simp at h⟩
/-- an object that stays as it is -/
theorem RelO.mono {a : Addr} {o : O} (f : Fr ρ H ρ' H') (e : H' a = H a) (r : RelO K C ρ H a o) : RelO K C ρ' H' a o := by
  cases o with
  | lst ds => obtain ⟨vs, q, z⟩ := r; exact ⟨vs, e.trans q, z.mono f⟩
  | dT kvs => obtain ⟨xs, q, z⟩ := r; exact ⟨xs, e.trans q, Paired.mapP z fun _ _ y => y.mono f⟩
  | dK kvs => obtain ⟨vs, q, z⟩ := r; exact ⟨vs, e.trans q, z.mono f⟩
  | dN kvs => obtain ⟨xs, q, z⟩ := r; exact ⟨xs, e.trans q, Paired.mapP z fun _ _ y => y.mono f⟩
  | dL kvs => obtain ⟨o, xs, q, z⟩ := r; exact ⟨o, xs, e.trans q, Paired.mapP z fun _ _ y => y.mono f⟩
  | ins c fs => obtain ⟨dx, vs, q, z⟩ := r; exact ⟨dx, vs, e.trans q, z.mono f⟩
/-- a new address that is no object of ours (a tuple, a sale) -/
theorem Fr.new {p : Addr} {o : HO} (hp : H p = none) : Fr ρ H ρ (upd H p o) :=
  ⟨fun b u e _ => by rw [upd_ne (ne_of_none e hp)]; exact e, fun b e => by
    by_cases hb : b = p
    · rw [hb]; exact hp
    · rw [upd_ne hb] at e; exact e, ⟨[], by simp, by simp⟩, fun b o u e => by rw [upd_ne (ne_of_none e hp)]; exact e⟩
theorem RelH.new (R : RelH K C ρ H h) {p : Addr} {o : HO} (hp : H p = none) : RelH K C ρ (upd H p o) h :=
  ⟨R.len, R.nd, fun i a u e1 e2 => (R.at_ i a u e1 e2).mono (Fr.new hp) (by
    obtain ⟨w, e, _⟩ := (R.at_ i a u e1 e2).there
    rw [upd_ne (ne_of_none e hp)])⟩
/-- a new object of ours -/
theorem Fr.newO {p : Addr} {o : HO} (hp : H p = none) : Fr ρ H (ρ ++ [p]) (upd H p o) :=
  ⟨(Fr.new hp : Fr ρ H ρ (upd H p o)).keep, (Fr.new hp : Fr ρ H ρ (upd H p o)).free, ⟨[p], rfl, fun a ha => by simp at ha; rw [ha]; exact hp⟩, (Fr.new hp : Fr ρ H ρ (upd H p o)).lock⟩
theorem RelH.newO (R : RelH K C ρ H h) {p : Addr} {u : HO} {o : O} (hp : H p = none) (r : RelO K C (ρ ++ [p]) (upd H p u) p o) : RelH K C (ρ ++ [p]) (upd H p u) (h ++ [o]) := by
  have np := R.notin hp
  refine ⟨by simp [R.len], ?_, fun i a q e1 e2 => ?_⟩
  · rw [List.nodup_append]
    refine ⟨R.nd, by simp, fun a ha b hb z => ?_⟩
    simp at hb
    exact np (by rw [← hb, ← z]; exact ha)
  · by_cases hi : i < ρ.length
    · rw [List.getElem?_append_left hi] at e1
      rw [List.getElem?_append_left (by rw [← R.len]; exact hi)] at e2
      refine (R.at_ i a q e1 e2).mono (Fr.newO hp) ?_
      obtain ⟨w, e, _⟩ := (R.at_ i a q e1 e2).there
      rw [upd_ne (ne_of_none e hp)]
    · have hi' : ρ.length ≤ i := by omega
      rw [List.getElem?_append_right hi'] at e1
      rw [List.getElem?_append_right (by rw [← R.len]; exact hi')] at e2
      have z : i - ρ.length = 0 := by
        by_cases q0 : i - ρ.length = 0
        · exact q0
        · have : ([p] : List Addr)[i - ρ.length]? = none := List.getElem?_eq_none (by simp; omega)
          rw [this] at e1; cases e1
      rw [z] at e1
      rw [← R.len, z] at e2
      simp at e1 e2
      subst e1; subst e2
      exact r
/-- an object of ours is written -/
theorem Fr.wr {a : Addr} {o : HO} (ha : a ∈ ρ) (hn : ∀ q u, H a ≠ some (.frz q u)) : Fr ρ H ρ (upd H a o) :=
  ⟨fun b u e n => by rw [upd_ne (fun z => n (by rw [z]; exact ha))]; exact e, fun b e => by
    by_cases hb : b = a
    · rw [hb, upd_same] at e; cases e
    · rw [upd_ne hb] at e; exact e, ⟨[], by simp, by simp⟩, fun b q u e => by rw [upd_ne (fun z => hn q u (by rw [← z]; exact e))]; exact e⟩
theorem nofr {a : Addr} {u : HO} (e : H a = some u) (h : ∀ q w, u ≠ .frz q w := by intro _ _ z; cases z) : ∀ q w, H a ≠ some (.frz q w) := fun q w z => h q w (by rw [e] at z; exact Option.some.inj z)
theorem RelH.wr (R : RelH K C ρ H h) {i : Nat} {a : Addr} {u : HO} {o : O} (hn : ∀ q u, H a ≠ some (.frz q u)) (hi : ρ[i]? = some a) (r : RelO K C ρ (upd H a u) a o) : RelH K C ρ (upd H a u) (h.set i o) := by
  have ha : a ∈ ρ := List.mem_of_getElem? hi
  refine ⟨by simp [R.len], R.nd, fun j b q e1 e2 => ?_⟩
  by_cases hj : j = i
  · subst hj
    rw [hi] at e1; cases e1
    have hl : j < h.length := by rw [← R.len]; exact (List.getElem?_eq_some_iff.mp hi).1
    rw [List.getElem?_set_self hl] at e2
    cases e2
    exact r
  · rw [List.getElem?_set_ne (Ne.symm hj)] at e2
    have hb : b ≠ a := fun z => hj ((List.getElem?_inj (List.getElem?_eq_some_iff.mp e1).1 R.nd).mp (by rw [e1, hi, z]))
    exact (R.at_ j b q e1 e2).mono (Fr.wr ha hn) (upd_ne hb)
/-- another's work that leaves our objects as they are -/
theorem RelH.mono (R : RelH K C ρ H h) (f : Fr ρ H ρ H') (e : ∀ a ∈ ρ, H' a = H a) : RelH K C ρ H' h :=
  ⟨R.len, R.nd, fun i a u e1 e2 => (R.at_ i a u e1 e2).mono f (e a (List.mem_of_getElem? e1))⟩
theorem RelH.obj (R : RelH K C ρ H h) {i : Nat} {o : O} (hi : h[i]? = some o) : ∃ a, ρ[i]? = some a ∧ RelO K C ρ H a o := by
  have hl : i < ρ.length := by rw [R.len]; exact (List.getElem?_eq_some_iff.mp hi).1
  exact ⟨ρ[i], List.getElem?_eq_getElem hl, R.at_ i _ o (List.getElem?_eq_getElem hl) hi⟩
end

/-! ### the names' values -/
abbrev En := List (Option D)
structure RelE (K : PySem.W.Frag) (C : Cl) (ρ : List Addr) (H : Hp) (σ : St) (en : En) : Prop where
  len : en.length = σ.length
  at_ : ∀ (i : Nat) (d : D), en[i]? = some (some d) → ∃ v, σ[i]? = some (some v) ∧ Rep K C ρ H d v
theorem RelE.mono {K : PySem.W.Frag} {C : Cl} {ρ ρ' : List Addr} {H H' : Hp} {σ : St} {en : En} (f : Fr ρ H ρ' H') (r : RelE K C ρ H σ en) : RelE K C ρ' H' σ en :=
  ⟨r.len, fun i d e => by
    obtain ⟨v, h1, h2⟩ := r.at_ i d e
    exact ⟨v, h1, h2.mono f⟩⟩
theorem RelE.set {K : PySem.W.Frag} {C : Cl} {ρ : List Addr} {H : Hp} {σ : St} {en : En} (r : RelE K C ρ H σ en) (i : Nat) {d : D} {v : V} (h : Rep K C ρ H d v) : RelE K C ρ H (σ.set i (some v)) (en.set i (some d)) := by
  refine ⟨by simp [r.len], fun j e q => ?_⟩
  by_cases hj : j = i
  · subst hj
    have hl : j < en.length := by
      have := (List.getElem?_eq_some_iff.mp q).1
      simpa using this
    rw [List.getElem?_set_self hl] at q
    cases q
    exact ⟨v, by rw [List.getElem?_set_self (by rw [← r.len]; exact hl)], h⟩
  · rw [List.getElem?_set_ne (Ne.symm hj)] at q
    obtain ⟨u, h1, h2⟩ := r.at_ j e q
    exact ⟨u, by rw [List.getElem?_set_ne (Ne.symm hj)]; exact h1, h2⟩
end Mi

set_option Elab.async false
set_option linter.all false
set_option maxRecDepth 100000
set_option maxHeartbeats 1000000
/-! Mi2: a small language and what its texts do. -/
namespace Mi
open PySem L2

inductive Bop where
  | add | sub | mul | fdiv | mod | pow | shl | shr
  deriving DecidableEq
inductive Cop where
  | eq | ne | lt | le | gt | ge | inn | nin
  deriving DecidableEq
/-- what isinstance asks for: a built-in class, the sale's class -/
inductive Ty where
  | str | int | bool | tuple | sale
  deriving DecidableEq
inductive Bf where
  | len | abs | max | int | str | list | tuple
  deriving DecidableEq
inductive Bm where
  | append | pop | extend | reverse | split | strip | join
  deriving DecidableEq
mutual
inductive E where
  | var (i : Nat) | cst (d : D) | glob (i : Nat)
  | bin (o : Bop) (a b : E) | neg (a : E) | not (a : E) | and (a b : E) | or (a b : E)
  | cmp (o : Cop) (a b : E) | chain (o p : Cop) (a b c : E) | isN (a : E) | notN (a : E) | eqS (f : Nat) (a b : E) | sprop (p f : Str) (a : E) | lstF (es : Es) | ite (c a b : E)
  | tup (es : Es) | lst (es : Es) | call (f : Nat) (es : Es) | callP (f : Nat) (es : Es) | meth (c : Nat) (m : Str) (f : Nat) (a : E) (es : Es)
  | bf (b : Bf) (es : Es) | bm (m : Bm) (a : E) (es : Es) | isi (a : E) (t : Ty)
  | fld (a : E) (f : Str) | fldC (c : Nat) (a : E) (f : Str) | prop (c f : Nat) (a : E) | idx (a i : E) | slH (a b : E) | slT (a b : E) | rev (a : E)
  | mkSale (a b : E) | mk (c f : Nat) (es : Es)
  | dnew (k : Nat) | d1 (a b : E) | dget2 (d k x : E) | dD (ks : List Str) (es : Es)
  | xfld (f : Str) | xisi (c : Nat) | bad | dgetS (ks : List Str) (es : Es) (k x : E) | didxS (ks : List Str) (es : Es) (k : E) | apE (vs : List Nat) (a : E) | nnew | nget (a k : E) | nin (neg : Bool) (k a : E)
  | comp (vs tg : List Nat) (k : Bool) (it c elt : E) | comp1 (vs : List Nat) (i : Nat) (k : Bool) (n c elt : E) | comp2 (vs tg : List Nat) (z k : Bool) (a b c elt : E) | lrange (a : E) | lenO (c f : Nat) (a : E) | neT (f : Nat) (a b : E)
inductive Es where
  | nil | cons (e : E) (es : Es) | star (e : E) (es : Es)
end
inductive It where
  | seq (e : E) | range1 (a : E) | range2 (a b : E) | range3 (a b c : E) | enum (e : E) | keys (e : E)
mutual
inductive S where
  | expr (e : E) | asg (i : Nat) (e : E) | par (is : List Nat) (es : Es) | unp (is : List Nat) (e : E)
  | setF (c : Nat) (o : E) (f : Str) (e : E) | setI (o i e : E) | aug (i : Nat) (op : Bop) (e : E) | augF (c : Nat) (o : E) (f : Str) (op : Bop) (e : E) | unpL (is : List Nat) (e : E) | augI (o i : E) (op : Bop) (e : E) | nput (o k e : E) | tput (o k e : E)
  | ret (e : E) | retN | ite (c : E) (a b : Ss) | for_ (tg : List Nat) (it : It) (b : Ss) | wh (c : E) (b : Ss)
  | raise (c : Nat) (es : Es) | try_ (b : Ss) (hs : Hs) | brk | pass | bad
inductive Ss where
  | nil | cons (s : S) (ss : Ss)
/-- except clauses: the class, the slot of its name, what is stored: the slot, and the datum by the exception -/
inductive Hs where
  | nil | cons (c : Nat) (i : Option Nat) (b : Ss) (hs : Hs)
end

/-! ### operations on data -/
def new (o : O) (h : List O) : Out D := .ok (.obj h.length) (h ++ [o])
def LIM : Nat := 4000000
def mulOk (i j : Int) : Bool := decide (i.natAbs < 2 ^ 63) || decide (j.natAbs < 2 ^ 63) || (decide (i.natAbs < 2 ^ 8000) && decide (j.natAbs < 2 ^ 8000))
def strMul (s : Str) : Nat → Str
  | 0 => ""
  | n + 1 => s ++ strMul s n
def mulS (a : Str) (j : Int) : Str := if j < 1 then Str.empty else if (j == 1 || a.length == 0) = true then a else ⟨(List.replicate j.toNat a.cps).foldl (· ++ ·) #[]⟩
def binI (o : Bop) (x y : D) (h : List O) : Out D :=
  match o, x, y with
  | .add, .int i, .int j => .ok (.int (i + j)) h
  | .sub, .int i, .int j => .ok (.int (i - j)) h
  | .mul, .int i, .int j => if mulOk i j then .ok (.int (i * j)) h else .stuck
  | .fdiv, .int i, .int j => if 0 < j ∧ j.natAbs < 2 ^ 8000 then .ok (.int (i / j)) h else .stuck
  | .mod, .int i, .int j => if j ≠ 0 then .ok (.int (i.fmod j)) h else .stuck
  | .pow, .int i, .int j => if 0 ≤ j ∧ j ≤ 1000 ∧ i.natAbs < 2 ^ 64 then .ok (.int (i ^ j.toNat)) h else .stuck
  | .shl, .int i, .int j => if 0 ≤ j ∧ j ≤ 1000 ∧ i.natAbs < 2 ^ 64 then .ok (.int (i * 2 ^ j.toNat)) h else .stuck
  | .shr, .int i, .int j => if 0 ≤ j then .ok (.int (i / 2 ^ j.toNat)) h else .stuck
  | .add, .str a, .str b => if a.length + b.length ≤ LIM then .ok (.str (a ++ b)) h else .stuck
  | .add, .tup as, .tup bs => if as.length + bs.length ≤ LIM then .ok (.tup (as ++ bs)) h else .stuck
  | .add, .obj i, .obj j => match h[i]?, h[j]? with
    | some (.lst as), some (.lst bs) => if as.length + bs.length ≤ LIM then new (.lst (as ++ bs)) h else .stuck
    | _, _ => .stuck
  | .mul, .str a, .int j => if (0 ≤ j ∧ j ≤ 1000 ∧ a.length ≤ 1000) ∧ (mulS a j).length ≤ 1000000 then .ok (.str (mulS a j)) h else .stuck
  | .mul, .obj i, .int j => match h[i]? with
    | some (.lst as) => if 0 ≤ j ∧ j ≤ 1000 ∧ as.length ≤ 100 then new (.lst ((List.replicate j.toNat as).flatten)) h else .stuck
    | _ => .stuck
  | _, _, _ => .stuck

def flatD : D → Bool
  | .non => true
  | .bl _ => true
  | .int _ => true
  | .str _ => true
  | _ => false
def eqF : D → D → Bool
  | .non, .non => true
  | .bl a, .bl b => a == b
  | .bl a, .int b => (if a then 1 else 0) == b
  | .int a, .bl b => a == (if b then 1 else 0)
  | .int a, .int b => a == b
  | .str a, .str b => a == b
  | _, _ => false
def optAll {α : Type} : List (Option α) → Option (List α)
  | [] => some []
  | none :: _ => none
  | some a :: r => match optAll r with
    | some l => some (a :: l)
    | none => none
/-- a datum as data, objects looked up, to a depth -/
def toPD : Nat → List O → D → Option PyData
  | _, _, .non => some .none
  | _, _, .bl b => some (.bool b)
  | _, _, .int i => some (.int i)
  | _, _, .str s => some (.str s)
  | 0, _, _ => none
  | n + 1, h, .tup ds => match optAll (ds.map (toPD n h)) with
    | some l => some (.tuple l)
    | none => none
  | n + 1, h, .lsF ds => match optAll (ds.map (toPD n h)) with
    | some l => some (.list l)
    | none => none
  | n + 1, h, .obj i => match h[i]? with
    | some (.lst ds) => match optAll (ds.map (toPD n h)) with
      | some l => some (.list l)
      | none => none
    | _ => none
  | _, _, .sale _ _ => none
  | _, _, .adr _ => none
def eqI (x y : D) (h : List O) : Option Bool :=
  match toPD 6 h x, toPD 6 h y with
  | some a, some b => if SeqAt.shaped a && SeqAt.shaped b then some (PyData.eqv a b) else none
  | _, _ => none
/-- what is walked or asked by place -/
def itemsOf (d : D) (h : List O) : Option (List D) :=
  match d with
  | .tup ds => some ds
  | .lsF ds => some ds
  | .obj i => match h[i]? with
    | some (.lst ds) => some ds
    | _ => none
  | _ => none
def isList (d : D) : Bool := match d with
  | .tup _ => false
  | _ => true
def inI (x y : D) (h : List O) : Option Bool :=
  match itemsOf y h with
  | none => none
  | some ds => if flatD x && ds.all flatD then some (ds.any fun z => eqF z x) else
    if isList y then match toPD 6 h x, optAll (ds.map (toPD 6 h)) with
      | some a, some l => if SeqAt.shaped a && SeqAt.shaped (.list l) then some (l.any fun z => PyData.eqv z a) else none
      | _, _ => none
    else none
def cmpI (o : Cop) (x y : D) (h : List O) : Option Bool :=
  match o with
  | .eq => eqI x y h
  | .ne => (eqI x y h).map (!·)
  | .inn => inI x y h
  | .nin => (inI x y h).map (!·)
  | .lt => match x, y with
    | .int i, .int j => some (decide (i < j))
    | _, _ => none
  | .le => match x, y with
    | .int i, .int j => some (decide (i ≤ j))
    | _, _ => none
  | .gt => match x, y with
    | .int i, .int j => some (decide (j < i))
    | _, _ => none
  | .ge => match x, y with
    | .int i, .int j => some (decide (j ≤ i))
    | _, _ => none
def truI (d : D) (h : List O) : Option Bool :=
  match d with
  | .non => some false
  | .bl b => some b
  | .int i => some (i != 0)
  | .str s => if s.length ≤ LIM then some ((s.length : Int) != 0) else none
  | .tup ds => some (!ds.isEmpty)
  | .lsF ds => some (!ds.isEmpty)
  | .obj i => match h[i]? with
    | some (.lst ds) => some (!ds.isEmpty)
    | _ => none
  | _ => none
def tyI (t : Ty) (d : D) (h : List O) : Option Bool :=
  match d with
  | .non => some false
  | .bl _ => some (t == .bool || t == .int)
  | .int _ => some (t == .int)
  | .str _ => some (t == .str)
  | .tup _ => some (t == .tuple)
  | .lsF _ => some false
  | .sale _ _ => some (t == .sale)
  | .adr _ => none
  | .obj i => match h[i]? with
    | some (.lst _) => some false
    | _ => none
/-- where there is no class of sales, nothing is asked of one -/
def tyS (sl : Bool) (t : Ty) (d : D) (h : List O) : Option Bool :=
  match sl with
  | true => tyI t d h
  | false => match t, d with
    | .sale, _ => none
    | _, .sale _ _ => none
    | _, _ => tyI t d h
def isNon : D → Bool
  | .non => true
  | _ => false
def intMax (i j : Int) : Int := if j > i then j else i
def bfI (b : Bf) (ds : List D) (h : List O) : Out D :=
  match b, ds with
  | .len, [d] => match itemsOf d h with
    | some l => .ok (.int l.length) h
    | none => .stuck
  | .abs, [.int i] => .ok (.int (if i < 0 then -i else i)) h
  | .max, [.int i, .int j] => .ok (.int (intMax i j)) h
  | .int, [.int i] => .ok (.int i) h
  | .int, [.bl b] => .ok (.int (if b then 1 else 0)) h
  | .list, [d] => match itemsOf d h with
    | some l => new (.lst l) h
    | none => .stuck
  | .tuple, [.obj i] => match h[i]? with
    | some (.lst l) => (.ok (.tup l) h)
    | _ => .stuck
  | .str, [.int i] => if i.natAbs < 2 ^ 63 then .ok (.str (toString i)) h else .stuck
  | .int, [.str s] => match PySem.intText? s with
    | some n => if s.length ≤ 640 then .ok (.int n) h else .stuck
    | none => .stuck
  | .str, [.str s] => .ok (.str s) h
  | _, _ => .stuck
def strD : D → Option Str
  | .str s => some s
  | _ => none
def bmI (m : Bm) (o : D) (ds : List D) (h : List O) : Out D :=
  match m, o, ds with
  | .append, .obj i, [d] => match h[i]? with
    | some (.lst l) => if l.length < LIM then .ok .non (h.set i (.lst (l ++ [d]))) else .stuck
    | _ => .stuck
  | .extend, .obj i, [.obj j] => match h[i]?, h[j]? with
    | some (.lst l), some (.lst m) => if l.length + m.length < LIM then .ok .non (h.set i (.lst (l ++ m))) else .stuck
    | _, _ => .stuck
  | .pop, .obj i, [] => match h[i]? with
    | some (.lst l) => match l[l.length - 1]? with
      | some d => .ok d (h.set i (.lst l.dropLast))
      | none => .stuck
    | _ => .stuck
  | .reverse, .obj i, [] => match h[i]? with
    | some (.lst l) => .ok .non (h.set i (.lst l.reverse))
    | _ => .stuck
  | .split, .str a, [.str b] => if (b.length == 0) = false ∧ a.length ≤ LIM then new (.lst ((Txt.split a b).map .str)) h else .stuck
  | .strip, .str a, [] => if a.length ≤ LIM then .ok (.str (Txt.strip a)) h else .stuck
  | .strip, .str a, [.str b] => if a.length ≤ LIM then .ok (.str (Txt.stripChars a b)) h else .stuck
  | .join, .str a, [d] => match itemsOf d h with
    | some l => (match optAll (l.map strD) with
      | some ys => if (ys.map (·.length)).sum + ys.length * a.length ≤ 16777216 then .ok (.str (Txt.join a ys)) h else .stuck
      | none => .stuck)
    | none => .stuck
  | _, _, _ => .stuck
/-- a method's receiver is of the built-in class that has it -/
def bmT (m : Bm) (x : D) (h : List O) : Bool :=
  match m with
  | .split => (match x with
    | .str _ => true
    | _ => false)
  | .strip => (match x with
    | .str _ => true
    | _ => false)
  | .join => (match x with
    | .str _ => true
    | _ => false)
  | _ => (match x with
    | .obj i => (match h[i]? with
      | some (.lst _) => true
      | _ => false)
    | _ => false)
def idxI (x y : D) (h : List O) : Option D :=
  match y with
  | .int i => match itemsOf x h with
    | some l => atI l i
    | none => none
  | _ => none
def putD (f : Str) (d : D) : List (Str × D) → List (Str × D)
  | [] => [(f, d)]
  | (g, e) :: r => if g = f then (g, d) :: r else (g, e) :: putD f d r
def fldI (d : D) (f : Str) : Option D :=
  match d with
  | .sale a b => if f = "taker" then some (.str a) else if f = "favoured" then some (.str b) else none
  | _ => none
def fldCI (c : Nat) (d : D) (f : Str) (h : List O) : Option D :=
  match d with
  | .obj i => match h[i]? with
    | some (.ins y fs) => if y = c then fs.lookup f else none
    | _ => none
  | _ => none
mutual
/-- no object within, no list -/
def pureD : D → Bool
  | .tup ds => pureDs ds
  | .obj _ => false
  | .adr _ => false
  | .lsF _ => false
  | _ => true
def pureDs : List D → Bool
  | [] => true
  | d :: ds => pureD d && pureDs ds
end
def pureX (x : Xc) : Bool := x.fs.all fun p => flatD p.2

/-! ### what a text does -/
structure Fns where
  fn : Nat → List D → List O → Out D
  gl : List (Str × D) := []
  /-- the exceptions' classes: their fields; which is below which -/
  xc : List (List Str) := []
  sub : Nat → Nat → Bool := fun _ _ => false
  /-- the exception that is handled -/
  cur : Option Xc := none
  /-- there is a class of sales -/
  sl : Bool := true
  /-- a sale's properties may be read -/
  pr : D → Str → Option D := fun _ _ => none
  /-- a sale is made -/
  mkS : D → D → List O → Out D := fun _ _ _ => .stuck
def ofO {α : Type} (o : Option α) (h : List O) : Out α := match o with
  | some a => .ok a h
  | none => .stuck
/-- no exception is let out -/
def noX (o : Out D) : Out D := match o with
  | .ok d h => .ok d h
  | _ => .stuck
/-- flat items that are the same -/
def sameI : D → D → Bool
  | .int i, .int j => i == j
  | .str a, .str b => a == b
  | _, _ => false
def sameL : List D → List D → Bool
  | [], [] => true
  | d :: ds, e :: es => sameI d e && sameL ds es
  | _, _ => false
/-- a sale, equal by its own ==, and flat items -/
def sameT (F : Fns) (f : Nat) : D → D → Bool
  | .tup [.sale a b, .tup ds], .tup [.sale a2 b2, .tup es] => (match F.fn f [.sale a b, .sale a2 b2] [] with
    | .ok (.bl true) _ => true
    | _ => false) && sameL ds es
  | _, _ => false
/-- what len takes of an own __len__ -/
def lenX (o : Out D) : Out D := match o with
  | .ok (.int n) h => if 0 ≤ n ∧ n < 1000000000 then .ok (.int n) h else .stuck
  | _ => .stuck
/-- run apart: on no objects; the answer is data, the objects are as they were -/
def apart (o : Out D) (h : List O) : Out D := match o with
  | .ok d _ => if pureD d then .ok d h else .stuck
  | .exc x _ => if pureX x then .exc x h else .stuck
  | .stuck => .stuck
/-- data as it stands now: lists of ours, read only -/
def frzA : Nat → List O → D → Option D
  | 0, _, _ => none
  | n + 1, h, .tup ds => match optAll (ds.map (frzA n h)) with
    | some l => some (.tup l)
    | none => none
  | n + 1, h, .lsF ds => match optAll (ds.map (frzA n h)) with
    | some l => some (.lsF l)
    | none => none
  | n + 1, h, .obj i => match h[i]? with
    | some (.lst ds) => (match optAll (ds.map (frzA n h)) with
      | some l => some (.lsF l)
      | none => none)
    | _ => none
  | _ + 1, _, .adr _ => none
  | _ + 1, _, .non => some .non
  | _ + 1, _, .bl b => some (.bl b)
  | _ + 1, _, .int i => some (.int i)
  | _ + 1, _, .str s => some (.str s)
  | _ + 1, _, .sale a b => some (.sale a b)
def frzAs (h : List O) (ds : List D) : Option (List D) := optAll (ds.map (frzA 4 h))
/-- some of the names' values, read only -/
def frzE (h : List O) (en : En) : List Nat → En → Option En
  | [], acc => some acc
  | i :: is, acc => match en[i]? with
    | some (some d) => (match frzA 4 h d with
      | some d => frzE h en is (acc.set i (some d))
      | none => none)
    | _ => none
/-- what comes back from apart: data, new lists of data, tuples of these -/
def backA : Nat → List O → D → Option D
  | 0, _, _ => none
  | n + 1, h1, d => if pureD d = true then some d else match d with
    | .tup ds => (match optAll (ds.map (backA n h1)) with
      | some l => some (.tup l)
      | none => none)
    | .obj i => (match h1[i]? with
      | some (.lst ds) => (match optAll (ds.map (backA n h1)) with
        | some l => some (.lsF l)
        | none => none)
      | _ => none)
    | _ => none
def backD (d : D) (h1 : List O) : Option D := backA 4 h1 d
def bring (o : Out D) (h : List O) : Out D := match o with
  | .ok d h1 => (match backD d h1 with
    | some d => .ok d h
    | none => .stuck)
  | _ => .stuck
/-! slices -/
def cutL {α : Type} (xs : List α) (lo hi : Option Int) : List α := (xs.drop (HT.sIx xs.length 0 lo)).take (HT.sIx xs.length xs.length hi - HT.sIx xs.length 0 lo)
def slI (x : D) (lo hi : Option Int) (h : List O) : Out D := if isList x = true then (match itemsOf x h with
  | some ds => new (.lst (cutL ds lo hi)) h
  | none => .stuck) else .stuck
/-! dicts whose keys are tuples of a tuple and further ints and texts -/
def keyOf : D → Option Key
  | .int i => some (.inl i)
  | .str s => some (.inr s)
  | _ => none
def keysOf (ds : List D) : Option (List Key) := optAll (ds.map keyOf)
def k2Of : D → Option K2
  | .tup (.tup as :: bs) => match keysOf as, keysOf bs with
    | some a, some b => some (a, b)
    | _, _ => none
  | _ => none
def lookN (kvs : List (K2 × D)) (k : K2) : Option D := (kvs.find? fun p => decide (p.1 = k)).map (·.2)
def putN (kvs : List (K2 × D)) (k : K2) (d : D) : List (K2 × D) := if (kvs.any fun p => decide (p.1 = k)) = true then kvs.map (fun p => if p.1 = k then (p.1, d) else p) else kvs ++ [(k, d)]
def tkOf : D → Option (List Key)
  | .tup ds => keysOf ds
  | _ => none
def putT (kvs : List (List Key × D)) (k : List Key) (d : D) : List (List Key × D) := if (kvs.any fun p => decide (p.1 = k)) = true then kvs.map (fun p => if p.1 = k then (p.1, d) else p) else kvs ++ [(k, d)]
def keyD : List Key → D := fun ks => .tup (ks.map fun | .inl i => .int i | .inr s => .str s)
def tdI (x y : D) (h : List O) : Option (Nat × List (List Key × D) × List Key) := match x with
  | .obj i => (match h[i]?, tkOf y with
    | some (.dT kvs), some k => some (i, kvs, k)
    | _, _ => none)
  | _ => none
/-- the dict, the key -/
def ndI (x y : D) (h : List O) : Option (Nat × List (K2 × D) × K2) := match x with
  | .obj i => (match h[i]?, k2Of y with
    | some (.dN kvs), some k => some (i, kvs, k)
    | _, _ => none)
  | _ => none
def setAll : En → List Nat → List D → Option En
  | en, [], [] => some en
  | en, i :: is, d :: ds => setAll (en.set i (some d)) is ds
  | _, _, _ => none
def setT (is : List Nat) (en : En) (d : D) : Option En :=
  match is with
  | [i] => some (en.set i (some d))
  | is => match d with
    | .tup ds => setAll en is ds
    | _ => none
def rangeD (lo hi : Int) : List D := (List.range (hi - lo).toNat).map fun k => .int (lo + (k : Nat))
def smallI (i : Int) : Bool := decide (-1000000 ≤ i) && decide (i ≤ 1000000)
/-- slots forgotten -/
def wipeE (en : En) : List Nat → En
  | [] => en
  | v :: vs => (wipeE en vs).set v none
/-- one item of a comprehension: what is appended, if anything -/
def elI (k : Bool) (ec ee : En → List O → Out D) (en : En) (h : List O) : Out (Option D) :=
  if k = true then (ec en h).bind fun t h => match truI t h with
    | some true => (ee en h).bind fun y h => .ok (some y) h
    | some false => .ok none h
    | none => .stuck
  else (ee en h).bind fun y h => .ok (some y) h
def putL (i : Nat) (y : Option D) (h : List O) : Option (List O) := match y with
  | none => some h
  | some y => match h[i]? with
    | some (.lst acc) => if acc.length < LIM then some (h.set i (.lst (acc ++ [y]))) else none
    | _ => none
/-- over data that stays; the new list is the object i -/
def cmpL (set : D → Option En) (ev : En → List O → Out (Option D)) (i : Nat) : List D → List O → Out Unit
  | [], h => .ok () h
  | d :: ds, h => match set d with
    | some en => (ev en h).bind fun y h => match putL i y h with
      | some h => cmpL set ev i ds h
      | none => .stuck
    | none => .stuck
/-- over a list that may change -/
def cmpO (j : Nat) (set : D → Option En) (ev : En → List O → Out (Option D)) (i : Nat) : Nat → Nat → List O → Out Unit
  | 0, _, _ => .stuck
  | n + 1, k, h => match h[j]? with
    | some (.lst ds) => match ds[k]? with
      | none => .ok () h
      | some d => match set d with
        | some en => (ev en h).bind fun y h => match putL i y h with
          | some h => cmpO j set ev i n (k + 1) h
          | none => .stuck
        | none => .stuck
    | _ => .stuck
/-- over two lists side by side -/
def cmpZ (i j : Nat) (set : D → Option En) (ev : En → List O → Out (Option D)) (q : Nat) : Nat → Nat → List O → Out Unit
  | 0, _, _ => .stuck
  | n + 1, k, h => match h[i]?, h[j]? with
    | some (.lst as), some (.lst bs) => match as[k]?, bs[k]? with
      | some a, some b => match set (.tup [a, b]) with
        | some en => (ev en h).bind fun y h => match putL q y h with
          | some h => cmpZ i j set ev q n (k + 1) h
          | none => .stuck
        | none => .stuck
      | _, _ => .ok () h
    | _, _ => .stuck
def cmpE (i : Nat) (o : Out Unit) : Out D := match o with
  | .ok _ h => .ok (.obj i) h
  | _ => .stuck
mutual
def evE (F : Fns) : E → En → List O → Out D
  | .var i, en, h => match en[i]? with
    | some (some d) => .ok d h
    | _ => .stuck
  | .cst d, _, h => .ok d h
  | .glob i, _, h => match F.gl[i]? with
    | some p => .ok p.2 h
    | none => .stuck
  | .bin o a b, en, h => (evE F a en h).bind fun x h => (evE F b en h).bind fun y h => binI o x y h
  | .neg a, en, h => (evE F a en h).bind fun x h => match x with
    | .int i => .ok (.int (-i)) h
    | _ => .stuck
  | .not a, en, h => (evE F a en h).bind fun x h => match truI x h with
    | some b => .ok (.bl (!b)) h
    | none => .stuck
  | .and a b, en, h => (evE F a en h).bind fun x h => match truI x h with
    | some true => evE F b en h
    | some false => .ok x h
    | none => .stuck
  | .or a b, en, h => (evE F a en h).bind fun x h => match truI x h with
    | some true => .ok x h
    | some false => evE F b en h
    | none => .stuck
  | .cmp o a b, en, h => (evE F a en h).bind fun x h => (evE F b en h).bind fun y h => (ofO (cmpI o x y h) h).bind fun c h => .ok (.bl c) h
  | .chain o p a b c, en, h => (evE F a en h).bind fun x h => (evE F b en h).bind fun y h => (ofO (cmpI o x y h) h).bind fun k h => match k with
    | true => (evE F c en h).bind fun z h => (ofO (cmpI p y z h) h).bind fun k h => .ok (.bl k) h
    | false => .ok (.bl false) h
  | .isN a, en, h => (evE F a en h).bind fun x h => .ok (.bl (isNon x)) h
  | .notN a, en, h => (evE F a en h).bind fun x h => .ok (.bl (!isNon x)) h
  | .ite c a b, en, h => (evE F c en h).bind fun x h => match truI x h with
    | some true => evE F a en h
    | some false => evE F b en h
    | none => .stuck
  | .tup es, en, h => (evEs F es en h).bind fun ds h => if ds.length ≤ LIM then .ok (.tup ds) h else .stuck
  | .lst es, en, h => (evEs F es en h).bind fun ds h => if ds.length ≤ LIM then new (.lst ds) h else .stuck
  | .call f es, en, h => (evEs F es en h).bind fun ds h => F.fn f ds h
  | .callP f es, en, h => (evEs F es en h).bind fun ds h => match frzAs h ds with
    | some ds => apart (F.fn f ds []) h
    | none => .stuck
  | .lstF es, en, h => (evEs F es en h).bind fun ds h => if ds.length ≤ LIM then .ok (.lsF ds) h else .stuck
  | .sprop _ f a, en, h => (evE F a en h).bind fun x h => ofO (F.pr x f) h
  | .eqS f a b, en, h => (evE F a en h).bind fun x h => (evE F b en h).bind fun y h => match x with
    | .sale _ _ => if (tyI .str y h).isSome = true then (match F.fn f [x, y] h with
      | .ok (.bl b) h => .ok (.bl b) h
      | _ => .stuck) else .stuck
    | _ => .stuck
  | .meth c m f a es, en, h => (evE F a en h).bind fun x h => match x with
    | .obj i => match h[i]? with
      | some (.ins k fs) => if k = c ∧ (fs.lookup m).isNone = true then (evEs F es en h).bind fun ds h => F.fn f (.obj i :: ds) h else .stuck
      | _ => .stuck
    | _ => .stuck
  | .bf b es, en, h => (evEs F es en h).bind fun ds h => bfI b ds h
  | .bm m a es, en, h => (evE F a en h).bind fun x h => if bmT m x h = true then (evEs F es en h).bind fun ds h => bmI m x ds h else .stuck
  | .isi a t, en, h => (evE F a en h).bind fun x h => (ofO (tyS F.sl t x h) h).bind fun b h => .ok (.bl b) h
  | .fld a f, en, h => (evE F a en h).bind fun x h => ofO (fldI x f) h
  | .fldC c a f, en, h => (evE F a en h).bind fun x h => ofO (fldCI c x f h) h
  | .idx a i, en, h => (evE F a en h).bind fun x h => (evE F i en h).bind fun y h => ofO (idxI x y h) h
  | .comp vs tg k it c elt, en, h => (evE F it en h).bind fun x h => cmpE h.length (match x with
    | .tup ds => cmpL (setT tg (wipeE en vs)) (elI k (evE F c) (evE F elt)) h.length ds (h ++ [.lst []])
    | .lsF ds => cmpL (setT tg (wipeE en vs)) (elI k (evE F c) (evE F elt)) h.length ds (h ++ [.lst []])
    | .obj j => match h[j]? with
      | some (.lst ds) => cmpO j (setT tg (wipeE en vs)) (elI k (evE F c) (evE F elt)) h.length (ds.length + 1) 0 (h ++ [.lst []])
      | _ => .stuck
    | _ => .stuck)
  | .comp1 vs i k n c elt, en, h => (evE F n en h).bind fun x h => match x with
    | .int m => if smallI m then cmpE h.length (cmpL (setT [i] (wipeE en vs)) (elI k (evE F c) (evE F elt)) h.length (rangeD 0 m) (h ++ [.lst []])) else .stuck
    | _ => .stuck
  | .comp2 vs tg z k a b c elt, en, h => (evE F a en h).bind fun x h => (evE F b en h).bind fun y h => match z with
    | true => (match x, y with
      | .obj i, .obj j => (match h[i]?, h[j]? with
        | some (.lst as), some (.lst _) => cmpE h.length (cmpZ i j (setT tg (wipeE en vs)) (elI k (evE F c) (evE F elt)) h.length (as.length + 1) 0 (h ++ [.lst []]))
        | _, _ => .stuck)
      | _, _ => .stuck)
    | false => (match x, y with
      | .int l, .int m => if smallI l && smallI m then cmpE h.length (cmpL (setT tg (wipeE en vs)) (elI k (evE F c) (evE F elt)) h.length (rangeD l m) (h ++ [.lst []])) else .stuck
      | _, _ => .stuck)
  | .lrange a, en, h => (evE F a en h).bind fun x h => match x with
    | .int n => if 0 ≤ n ∧ n ≤ 100000 then new (.lst (rangeD 0 n)) h else .stuck
    | _ => .stuck
  | .mkSale a b, en, h => (evE F a en h).bind fun x h => (evE F b en h).bind fun y h => F.mkS x y h
  | .mk c f es, en, h => (evEs F es en h).bind fun ds h => (F.fn f (.obj h.length :: ds) (h ++ [.ins c []])).bind fun r h2 => if isNon r then .ok (.obj h.length) h2 else .stuck
  | .dgetS ks es k x, en, h => (evEs F es en h).bind fun ds h => if ks.length = ds.length ∧ ds.all flatD = true then (evE F k en h).bind fun y h => (evE F x en h).bind fun z h => match y with
    | .str s => (match (ks.zip ds).lookup s with
      | some d => .ok d h
      | none => .ok z h)
    | _ => .stuck else .stuck
  | .didxS ks es k, en, h => (evEs F es en h).bind fun ds h => if ks.length = ds.length ∧ ds.all flatD = true then (evE F k en h).bind fun y h => match y with
    | .str s => ofO ((ks.zip ds).lookup s) h
    | _ => .stuck else .stuck
  | .apE vs a, en, h => match frzE h en vs (List.replicate en.length none) with
    | some en2 => bring (evE F a en2 []) h
    | none => .stuck
  | .nnew, _, h => new (.dN []) h
  | .prop c f a, en, h => (evE F a en h).bind fun x h => match x with
    | .obj i => (match h[i]? with
      | some (.ins k _) => if k = c then noX (F.fn f [.obj i] h) else .stuck
      | _ => .stuck)
    | _ => .stuck
  | .neT f a b, en, h => (evE F a en h).bind fun x h => (evE F b en h).bind fun y h => if sameT F f x y = true then .ok (.bl false) h else (ofO (cmpI .ne x y h) h).bind fun c h => .ok (.bl c) h
  | .lenO c f a, en, h => (evE F a en h).bind fun x h => match x with
    | .obj i => (match h[i]? with
      | some (.ins k _) => if k = c then lenX (F.fn f [.obj i] h) else .stuck
      | _ => .stuck)
    | _ => .stuck
  | .nget a k, en, h => (evE F a en h).bind fun x h => (evE F k en h).bind fun y h => match ndI x y h with
    | some (_, kvs, k) => ofO (lookN kvs k) h
    | none => .stuck
  | .nin neg k a, en, h => (evE F k en h).bind fun y h => (evE F a en h).bind fun x h => match ndI x y h with
    | some (_, kvs, k) => .ok (.bl (if neg = true then !(lookN kvs k).isSome else (lookN kvs k).isSome)) h
    | none => .stuck
  | .dnew _, _, h => new (.dT []) h
  | .slH a b, en, h => (evE F a en h).bind fun x h => (evE F b en h).bind fun y h => match y with
    | .int i => slI x none (some i) h
    | _ => .stuck
  | .slT a b, en, h => (evE F a en h).bind fun x h => (evE F b en h).bind fun y h => match y with
    | .int i => slI x (some i) none h
    | _ => .stuck
  | .d1 k a, en, h => (evE F k en (h ++ [.dT []])).bind fun y h1 => (evE F a en h1).bind fun d h2 => match h2[h.length]?, tkOf y with
    | some (.dT []), some kk => .ok (.obj h.length) (h2.set h.length (.dT [(kk, d)]))
    | _, _ => .stuck
  | .rev a, en, h => (evE F a en h).bind fun x h => match x with
    | .obj i => (match h[i]? with
      | some (.lst ds) => new (.lst ds.reverse) h
      | _ => .stuck)
    | _ => .stuck
  | .xfld f, _, h => match F.cur with
    | some x => ofO (x.fs.lookup f) h
    | none => .stuck
  | .xisi c, _, h => match F.cur with
    | some x => .ok (.bl (F.sub x.c c)) h
    | none => .stuck
  | _, _, _ => .stuck
def evEs (F : Fns) : Es → En → List O → Out (List D)
  | .nil, _, h => .ok [] h
  | .cons e es, en, h => (evE F e en h).bind fun d h => (evEs F es en h).bind fun ds h => .ok (d :: ds) h
  | .star e es, en, h => (evE F e en h).bind fun x h => match itemsOf x h with
    | some l => (evEs F es en h).bind fun ds h => .ok (l ++ ds) h
    | none => .stuck
end
/-- a statement's end -/
inductive OS where
  | nx (en : En) (h : List O) | rt (d : D) (h : List O) | bk (en : En) (h : List O) | ex (x : Xc) (en : En) (h : List O) | stuck
def OS.of {α : Type} (o : Out α) (en : En) (f : α → List O → OS) : OS := match o with
  | .ok a h => f a h
  | .exc x h => .ex x en h
  | .stuck => .stuck
def OS.seq (o : OS) (f : En → List O → OS) : OS := match o with
  | .nx en h => f en h
  | o => o
def FUEL : Nat := 1000000
def evT (F : Fns) (e : E) (en : En) (h : List O) : Out Bool := (evE F e en h).bind fun x h => ofO (truI x h) h
def whI (t : En → List O → Out Bool) (b : En → List O → OS) : Nat → En → List O → OS
  | 0, _, _ => .stuck
  | n + 1, en, h => OS.of (t en h) en fun k h => if k = true then match b en h with
      | .nx en h => whI t b n en h
      | .bk en h => .nx en h
      | .rt d h => .rt d h
      | .ex x en h => .ex x en h
      | .stuck => .stuck
    else .nx en h
def forI (set : En → D → Option En) (b : En → List O → OS) : List D → En → List O → OS
  | [], en, h => .nx en h
  | d :: ds, en, h => match set en d with
    | some en => match b en h with
      | .nx en h => forI set b ds en h
      | .bk en h => .nx en h
      | .rt d h => .rt d h
      | .ex x en h => .ex x en h
      | .stuck => .stuck
    | none => .stuck
/-- over a list that may change: by place -/
def forL (i : Nat) (set : En → D → Option En) (b : En → List O → OS) : Nat → Nat → En → List O → OS
  | 0, _, _, _ => .stuck
  | n + 1, k, en, h => match h[i]? with
    | some (.lst ds) => match ds[k]? with
      | none => .nx en h
      | some d => match set en d with
        | some en => match b en h with
          | .nx en h => forL i set b n (k + 1) en h
          | .bk en h => .nx en h
          | .rt d h => .rt d h
          | .ex x en h => .ex x en h
          | .stuck => .stuck
        | none => .stuck
    | _ => .stuck
/-- the same, by place and item -/
def forLE (i : Nat) (set : En → D → Option En) (b : En → List O → OS) : Nat → Nat → En → List O → OS
  | 0, _, _, _ => .stuck
  | n + 1, k, en, h => match h[i]? with
    | some (.lst ds) => match ds[k]? with
      | none => .nx en h
      | some d => match set en (.tup [.int (k : Nat), d]) with
        | some en => match b en h with
          | .nx en h => forLE i set b n (k + 1) en h
          | .bk en h => .nx en h
          | .rt d h => .rt d h
          | .ex x en h => .ex x en h
          | .stuck => .stuck
        | none => .stuck
    | _ => .stuck
/-- a loop's end, the dict that it walked open again -/
def unlk (i : Nat) (kvs : List (List Key × D)) : OS → OS
  | .nx en h => .nx en (h.set i (.dT kvs))
  | .rt d h => .rt d (h.set i (.dT kvs))
  | .bk en h => .bk en (h.set i (.dT kvs))
  | _ => .stuck
/-- m, m - 1, .. above n -/
def downD (m n : Int) : List D := (List.range (m - n).toNat).map fun i => .int (m + (i : Nat) * (-1))
/-- the items with their places -/
def enumD : Nat → List D → List D
  | _, [] => []
  | k, d :: ds => .tup [.int (k : Nat), d] :: enumD (k + 1) ds
def xargD : D → Bool
  | .str s => decide (s.length ≤ 1000)
  | .int i => decide (i.natAbs < 2 ^ 63)
  | _ => false
def mkX (F : Fns) (c : Nat) (ds : List D) : Option Xc := match F.xc[c]? with
  | some ns => if ns.length = ds.length ∧ ds.all xargD = true then some ⟨c, ns.zip ds⟩ else none
  | none => none
def setFI (c : Nat) (x : D) (f : Str) (d : D) (h : List O) : Option (List O) := match x with
  | .obj i => match h[i]? with
    | some (.ins y fs) => if y = c ∧ fs.length < 900 then some (h.set i (.ins y (putD f d fs))) else none
    | _ => none
  | _ => none
def setII (x y d : D) (h : List O) : Option (List O) := match x, y with
  | .obj i, .int k => match h[i]? with
    | some (.lst l) => match ixN l.length k with
      | some j => some (h.set i (.lst (l.set j d)))
      | none => none
    | _ => none
  | _, _ => none
/-- what stands at a place of a list -/
def getII (x y : D) (h : List O) : Option D := if isList x = true then idxI x y h else none
/-- a list's items -/
def lstOf (d : D) (h : List O) : Option (List D) := if isList d = true then itemsOf d h else none
def augI (o : Bop) (x y : D) : Option D := match o, x, y with
  | .add, .int i, .int j => some (.int (i + j))
  | .sub, .int i, .int j => some (.int (i - j))
  | _, _, _ => none
mutual
def evS (F : Fns) : S → En → List O → OS
  | .expr e, en, h => OS.of (evE F e en h) en fun _ h => .nx en h
  | .asg i e, en, h => OS.of (evE F e en h) en fun d h => .nx (en.set i (some d)) h
  | .par is es, en, h => OS.of (evEs F es en h) en fun ds h => match setAll en is ds with
    | some en => .nx en h
    | none => .stuck
  | .unp is e, en, h => OS.of (evE F e en h) en fun d h => match d with
    | .tup ds => match setAll en is ds with
      | some en => .nx en h
      | none => .stuck
    | _ => .stuck
  | .unpL is e, en, h => OS.of (evE F e en h) en fun d h => match lstOf d h with
    | some ds => (match setAll en is ds with
      | some en => .nx en h
      | none => .stuck)
    | none => .stuck
  | .augF c o f p e, en, h => OS.of (evE F o en h) en fun x h => match fldCI c x f h with
    | some d => OS.of (evE F e en h) en fun y h => (match augI p d y with
      | some z => (match setFI c x f z h with
        | some h => .nx en h
        | none => .stuck)
      | none => .stuck)
    | none => .stuck
  | .augI o i p e, en, h => OS.of (evE F o en h) en fun x h => OS.of (evE F i en h) en fun y h => match getII x y h with
    | some d => OS.of (evE F e en h) en fun z h => (match augI p d z with
      | some w => (match setII x y w h with
        | some h => .nx en h
        | none => .stuck)
      | none => .stuck)
    | none => .stuck
  | .setF c o f e, en, h => OS.of (evE F e en h) en fun d h => OS.of (evE F o en h) en fun x h => match setFI c x f d h with
    | some h => .nx en h
    | none => .stuck
  | .setI o i e, en, h => OS.of (evE F e en h) en fun d h => OS.of (evE F o en h) en fun x h => OS.of (evE F i en h) en fun y h => match setII x y d h with
    | some h => .nx en h
    | none => .stuck
  | .nput o k e, en, h => OS.of (evE F e en h) en fun d h => OS.of (evE F o en h) en fun x h => OS.of (evE F k en h) en fun y h => match ndI x y h with
    | some (i, kvs, k) => if kvs.length < LIM then .nx en (h.set i (.dN (putN kvs k d))) else .stuck
    | none => .stuck
  | .tput o k e, en, h => OS.of (evE F e en h) en fun d h => OS.of (evE F o en h) en fun x h => OS.of (evE F k en h) en fun y h => match tdI x y h with
    | some (i, kvs, k) => if kvs.length < LIM then .nx en (h.set i (.dT (putT kvs k d))) else .stuck
    | none => .stuck
  | .aug i o e, en, h => match en[i]? with
    | some (some x) => OS.of (evE F e en h) en fun y h => match augI o x y with
      | some z => .nx (en.set i (some z)) h
      | none => .stuck
    | _ => .stuck
  | .ret e, en, h => OS.of (evE F e en h) en fun d h => .rt d h
  | .retN, _, h => .rt .non h
  | .ite c a b, en, h => OS.of (evT F c en h) en fun k h => if k = true then evSs F a en h else evSs F b en h
  | .for_ tg (.seq e) b, en, h => OS.of (evE F e en h) en fun x h => match x with
    | .tup ds => forI (setT tg) (evSs F b) ds en h
    | .lsF ds => forI (setT tg) (evSs F b) ds en h
    | .obj i => match h[i]? with
      | some (.lst ds) => forL i (setT tg) (evSs F b) (ds.length + 1) 0 en h
      | _ => .stuck
    | _ => .stuck
  | .for_ tg (.range1 e) b, en, h => OS.of (evE F e en h) en fun x h => match x with
    | .int n => if smallI n then forI (setT tg) (evSs F b) (rangeD 0 n) en h else .stuck
    | _ => .stuck
  | .for_ tg (.range2 e e2) b, en, h => OS.of (evE F e en h) en fun x h => OS.of (evE F e2 en h) en fun y h => match x, y with
    | .int m, .int n => if smallI m && smallI n then forI (setT tg) (evSs F b) (rangeD m n) en h else .stuck
    | _, _ => .stuck
  | .for_ tg (.range3 e e2 e3) b, en, h => OS.of (evE F e en h) en fun x h => OS.of (evE F e2 en h) en fun y h => OS.of (evE F e3 en h) en fun z h => match x, y, z with
    | .int m, .int n, .int c => if smallI m && smallI n && decide (c = -1) then forI (setT tg) (evSs F b) (downD m n) en h else .stuck
    | _, _, _ => .stuck
  | .for_ tg (.keys e) b, en, h => match evE F e en h with
    | .ok (.obj i) _ => (match h[i]? with
      | some (.dT kvs) => OS.of (evE F e en (h.set i (.dL kvs))) en fun x h1 => (match x with
        | .obj j => if j = i then unlk i kvs (forI (setT tg) (evSs F b) (kvs.map fun p => keyD p.1) en h1) else .stuck
        | _ => .stuck)
      | _ => .stuck)
    | _ => .stuck
  | .for_ tg (.enum e) b, en, h => OS.of (evE F e en h) en fun x h => match x with
    | .tup ds => forI (setT tg) (evSs F b) (enumD 0 ds) en h
    | .obj i => match h[i]? with
      | some (.lst ds) => forLE i (setT tg) (evSs F b) (ds.length + 1) 0 en h
      | _ => .stuck
    | _ => .stuck
  | .wh c b, en, h => whI (evT F c) (evSs F b) FUEL en h
  | .raise c es, en, h => OS.of (evEs F es en h) en fun ds h => match mkX F c ds with
    | some x => .ex x en h
    | none => .stuck
  | .brk, en, h => .bk en h
  | .pass, en, h => .nx en h
  | .try_ b hs, en, h => match evSs F b en h with
    | .ex x en h => evHs F hs x en h
    | o => o
  | _, _, _ => .stuck
def evSs (F : Fns) : Ss → En → List O → OS
  | .nil, en, h => .nx en h
  | .cons s ss, en, h => (evS F s en h).seq fun en h => evSs F ss en h
def evHs (F : Fns) : Hs → Xc → En → List O → OS
  | .nil, x, en, h => .ex x en h
  | .cons c i b hs, x, en, h => if x.c < F.xc.length then if F.sub x.c c then match i with
      | none => (match evSs { F with cur := some x } b en h with
        | .ex _ _ _ => .stuck
        | o => o)
      | some i => if i < en.length then (match evSs { F with cur := some x } b (en.set i none) h with
        | .nx en h => .nx (en.set i none) h
        | .rt d h => .rt d h
        | _ => .stuck) else .stuck
    else evHs F hs x en h else .stuck
end
end Mi

set_option Elab.async false
set_option linter.all false
set_option maxRecDepth 100000
set_option maxHeartbeats 1000000
/-! Mi3: what is wanted behind a step; operations on data are the model's. -/
namespace Mi
open PySem L2

def RepX (K : PySem.W.Frag) (C : Cl) (H : Hp) (x : Xc) (cls : Value) (dd : Option Addr) : Prop :=
  cls = .ref (C.at_ x.c) ∧ (x.fs = [] ∧ dd = none ∨ ∃ d gs, dd = some d ∧ H d = some (.xd gs) ∧ ∀ f e, x.fs.lookup f = some e → ∃ v, gs.lookup f = some v ∧ ∀ ρ2 H2, Rep K C ρ2 H2 e v)

section
variable {α β γ δ : Type} (K : PySem.W.Frag) (C : Cl)
/-- what is wanted behind: of every end that the outcome allows -/
def Post (R : List Addr → Hp → α → β → Prop) (ρ : List Addr) (H : Hp) (o : Out α) (Q : β → Hp → Prop) (W : Value → Option Addr → Hp → Prop) : Prop :=
  match o with
  | .ok a h' => ∀ ρ' H' v, Fr ρ H ρ' H' → RelH K C ρ' H' h' → R ρ' H' a v → Q v H'
  | .exc x h' => ∀ ρ' H' cls dd, Fr ρ H ρ' H' → RelH K C ρ' H' h' → RepX K C H' x cls dd → W cls dd H'
  | .stuck => False
end
section
variable {α β γ δ : Type} {K : PySem.W.Frag} {C : Cl}
variable {R : List Addr → Hp → α → β → Prop} {R' : List Addr → Hp → γ → δ → Prop} {ρ ρ1 : List Addr} {H H1 : Hp} {Q : β → Hp → Prop} {Q' : δ → Hp → Prop} {W : Value → Option Addr → Hp → Prop}
theorem Post.from_ {o : Out α} (f : Fr ρ H ρ1 H1) (p : Post K C R ρ H o Q W) : Post K C R ρ1 H1 o Q W := by
  cases o with
  | ok a h => exact fun ρ' H' v g => p ρ' H' v (f.trans g)
  | exc x h => exact fun ρ' H' c d g => p ρ' H' c d (f.trans g)
  | stuck => exact p
theorem Post.step {o : Out α} {f : α → List O → Out γ} (p : Post K C R' ρ H (o.bind f) Q' W)
    (k : ∀ a h1 ρ1 H1 v, Fr ρ H ρ1 H1 → RelH K C ρ1 H1 h1 → R ρ1 H1 a v → Post K C R' ρ1 H1 (f a h1) Q' W → Q v H1) : Post K C R ρ H o Q W := by
  cases o with
  | ok a h => exact fun ρ1 H1 v g r z => k a h ρ1 H1 v g r z (Post.from_ (R := R') (o := f a h) g p)
  | exc x h => exact p
  | stuck => exact p
theorem Post.ok_ {a : α} {h : List O} {v : β} (r : RelH K C ρ H h) (z : R ρ H a v) (p : Post K C R ρ H (.ok a h) Q W) : Q v H := p ρ H v (Fr.refl ρ H) r z
theorem Post.imp {o : Out α} {Q2 : β → Hp → Prop} (p : Post K C R ρ H o Q W) (h : ∀ v H', Q v H' → Q2 v H') : Post K C R ρ H o Q2 W := by
  cases o with
  | ok a h' => exact fun ρ' H' v g r z => h v H' (p ρ' H' v g r z)
  | exc x h' => exact p
  | stuck => exact p
end
abbrev REq {α : Type} : List Addr → Hp → α → α → Prop := fun _ _ a b => a = b

/-! ### the readings -/
section
variable (K : PySem.W.Frag) (C : Cl) (F : Fns)
def tE (W : WX) (e : E) : TE := fun σ H Q => ∃ ρ h en, RelH K C ρ H h ∧ RelE K C ρ H σ en ∧ Post K C (Rep K C) ρ H (evE F e en h) Q (fun cls dd H' => W cls dd σ H')
def tAs (W : WX) (es : Es) : TA := fun σ H Q => ∃ ρ h en, RelH K C ρ H h ∧ RelE K C ρ H σ en ∧ Post K C (Reps K C) ρ H (evEs F es en h) Q (fun cls dd H' => W cls dd σ H')
def tT (W : WX) (e : E) : TT := fun σ H Q => ∃ ρ h en, RelH K C ρ H h ∧ RelE K C ρ H σ en ∧ Post K C REq ρ H (evT F e en h) Q (fun cls dd H' => W cls dd σ H')
end
theorem PE.weak {X : Cx} {e : Expr} {t t' : TE} (p : PE X e t) (h : ∀ σ H Q, t' σ H Q → t σ H Q) : PE X e t' := ⟨fun pins s σ H Q I z => p.run pins s σ H Q I (h σ H Q z)⟩
theorem PT.weak {X : Cx} {e : Expr} {t t' : TT} (p : PT X e t) (h : ∀ σ H Q, t' σ H Q → t σ H Q) : PT X e t' := ⟨fun pins s σ H Q I z => p.run pins s σ H Q I (h σ H Q z)⟩
theorem PA.weak {X : Cx} {e : List Expr} {t t' : TA} (p : PA X e t) (h : ∀ σ H Q, t' σ H Q → t σ H Q) : PA X e t' := ⟨fun pos pins s σ H Q I z => p.run pos pins s σ H Q I (h σ H Q z)⟩
theorem PS.weak {X : Cx} {e : Stmt} {t t' : TS} (p : PS X e t) (h : ∀ D σ H, t' D σ H → t D σ H) : PS X e t' := ⟨fun pins s σ H D I z => p.run pins s σ H D I (h D σ H z)⟩
theorem PSs.weak {X : Cx} {e : List Stmt} {t t' : TS} (p : PSs X e t) (h : ∀ D σ H, t' D σ H → t D σ H) : PSs X e t' := ⟨fun pins s σ H D I z => p.run pins s σ H D I (h D σ H z)⟩

/-! ### what stands for a datum -/
section
variable {K : PySem.W.Frag} {C : Cl} {ρ : List Addr} {H : Hp} {h : List O} {v : V}
theorem rep_non : Rep K C ρ H .non v ↔ v = .non := by rw [Rep]
theorem rep_bl {b : Bool} : Rep K C ρ H (.bl b) v ↔ v = .bl b := by rw [Rep]
theorem rep_int {i : Int} : Rep K C ρ H (.int i) v ↔ v = .int i := by rw [Rep]
theorem rep_str {s : Str} : Rep K C ρ H (.str s) v ↔ v = .str s := by rw [Rep]
theorem rep_tup {ds : List D} : Rep K C ρ H (.tup ds) v ↔ ∃ p vs, v = .ref p ∧ TupS K ρ H p vs ∧ Reps K C ρ H ds vs := by rw [Rep]
theorem rep_lsF {ds : List D} : Rep K C ρ H (.lsF ds) v ↔ ∃ p vs, v = .ref p ∧ LstS K ρ H p vs ∧ Reps K C ρ H ds vs := by rw [Rep]
theorem rep_sale {a b : Str} : Rep K C ρ H (.sale a b) v ↔ ∃ p dx, v = .ref p ∧ H p = some (.ins C.sale dx (saleF a b)) ∧ p ∉ ρ := by rw [Rep]
theorem rep_obj {i : Nat} : Rep K C ρ H (.obj i) v ↔ ∃ a, ρ[i]? = some a ∧ v = .ref a := by rw [Rep]
theorem rep_adr {a : Nat} : Rep K C ρ H (.adr a) v ↔ v = .ref a := by rw [Rep]
theorem limOk {n : Nat} (h : n ≤ LIM) : n ≤ sizeLine := Nat.le_trans h (by decide)
theorem limLt {n : Nat} (h : n < LIM) : n < sizeLine := Nat.lt_of_lt_of_le h (by decide)
/-- a new list of ours -/
theorem new_lst {Q : VK} {W : Value → Option Addr → Hp → Prop} {ds : List D} {vs : List V} (R : RelH K C ρ H h) (r : Reps K C ρ H ds vs) (p : Post K C (Rep K C) ρ H (new (.lst ds) h) Q W) :
    ∀ q, H q = none → Q (.ref q) (upd H q (.lst vs)) := fun q hq => by
  have r1 : Reps K C (ρ ++ [q]) (upd H q (.lst vs)) ds vs := r.mono (Fr.newO hq)
  refine p (ρ ++ [q]) _ _ (Fr.newO hq) (R.newO hq ⟨vs, upd_same, r1⟩) (rep_obj.mpr ⟨q, ?_, rfl⟩)
  rw [← R.len, List.getElem?_append_right (Nat.le_refl _)]
  simp
/-- a new tuple -/
theorem new_tup {Q : VK} {W : Value → Option Addr → Hp → Prop} {ds : List D} {vs : List V} (R : RelH K C ρ H h) (r : Reps K C ρ H ds vs) (p : Post K C (Rep K C) ρ H (.ok (.tup ds) h) Q W) :
    ∀ q, H q = none → Q (.ref q) (upd H q (.tup vs)) := fun q hq =>
  p ρ _ _ (Fr.new hq) (R.new hq) (rep_tup.mpr ⟨q, vs, rfl, .inl ⟨.inl upd_same, R.notin hq⟩, r.mono (Fr.new hq)⟩)
/-- a list of ours that is there -/
theorem at_lst {i : Nat} {ds : List D} {a : Addr} (R : RelH K C ρ H h) (hi : h[i]? = some (.lst ds)) (ha : ρ[i]? = some a) : ∃ vs, H a = some (.lst vs) ∧ Reps K C ρ H ds vs := R.at_ i a _ ha hi
theorem obj_lst {i : Nat} {ds : List D} (R : RelH K C ρ H h) (hi : h[i]? = some (.lst ds)) (r : Rep K C ρ H (.obj i) v) : ∃ a vs, ρ[i]? = some a ∧ v = .ref a ∧ H a = some (.lst vs) ∧ Reps K C ρ H ds vs := by
  obtain ⟨a, e, rfl⟩ := rep_obj.mp r
  obtain ⟨vs, q, z⟩ := at_lst R hi e
  exact ⟨a, vs, e, rfl, q, z⟩
/-- what is walked or asked by place -/
theorem items_sq {d : D} {ds : List D} (R : RelH K C ρ H h) (r : Rep K C ρ H d v) (e : itemsOf d h = some ds) : ∃ a vs, v = .ref a ∧ Reps K C ρ H ds vs ∧ ((isList d = true ∧ SqL K H a vs) ∨ (isList d = false ∧ SqT K H a vs)) := by
  cases d with
  | tup l =>
    obtain ⟨p, vs, rfl, t, z⟩ := rep_tup.mp r
    cases e
    exact ⟨p, vs, rfl, z, .inr ⟨rfl, t.sq⟩⟩
  | lsF l =>
    obtain ⟨p, vs, rfl, t, z⟩ := rep_lsF.mp r
    cases e
    exact ⟨p, vs, rfl, z, .inl ⟨rfl, t.sq⟩⟩
  | obj i =>
    cases q : h[i]? with
    | none => simp only [itemsOf, q] at e; cases e
    | some o =>
      simp only [itemsOf, q] at e
      cases o with
      | lst l =>
        cases e
        obtain ⟨a, vs, _, rfl, hH, z⟩ := obj_lst R q r
        exact ⟨a, vs, rfl, z, .inl ⟨rfl, SqL.of hH⟩⟩
      | _ => cases e
  | _ => cases e
theorem reps_at {ds : List D} {vs : List V} {i : Int} {d : D} (r : Reps K C ρ H ds vs) (e : atI ds i = some d) : ∃ u, atI vs i = some u ∧ Rep K C ρ H d u := by
  unfold atI at e ⊢
  rw [r.length]
  cases q : ixN ds.length i with
  | none => rw [q] at e; cases e
  | some j =>
    rw [q] at e
    exact r.get e
theorem idx_ok {x y d : D} {u w : V} (R : RelH K C ρ H h) (rx : Rep K C ρ H x u) (ry : Rep K C ρ H y w) (e : idxI x y h = some d) {Q : VK} (q : ∀ z, Rep K C ρ H d z → Q z H) : (rIxL K u w H Q ∨ rIxT K u w H Q) := by
  unfold idxI at e
  cases y with
  | int i =>
    have ew := rep_int.mp ry
    subst ew
    cases q1 : itemsOf x h with
    | none => simp only [q1] at e; cases e
    | some l =>
      simp only [q1] at e
      obtain ⟨a, vs, rfl, r, s⟩ := items_sq R rx q1
      obtain ⟨z, ez, rz⟩ := reps_at r e
      rcases s with ⟨_, s⟩ | ⟨_, s⟩
      · exact .inl ⟨a, vs, i, z, rfl, rfl, s, ez, q z rz⟩
      · exact .inr ⟨a, vs, i, z, rfl, rfl, s, ez, q z rz⟩
  | _ => cases e
end

/-! ### two-place operations -/
def opOf : Bop → Operator
  | .add => .Add
  | .sub => .Sub
  | .mul => .Mult
  | .fdiv => .FloorDiv
  | .mod => .Mod
  | .pow => .Pow
  | .shl => .LShift
  | .shr => .RShift
def rStr2 : R2 := fun x y H Q => ∃ i j, x = .str i ∧ y = .str j ∧ i.length + j.length ≤ sizeLine ∧ Q (.str (i ++ j)) H
def rMulW : R2 := rI (fun i j => i.natAbs < 2 ^ 8000 ∧ j.natAbs < 2 ^ 8000) fun i j => .int (i * j)
def rMulS : R2 := fun x y H Q => ∃ a j, x = .str a ∧ y = .int j ∧ 0 ≤ j ∧ j ≤ 1000 ∧ a.length ≤ 1000 ∧ (mulS a j).length ≤ 1000000 ∧ Q (.str (mulS a j)) H
theorem op_mulS {X : Cx} : OpR X (binaryOp .Mult) rMulS := by
  intro pins s σ H x y v u Q I rx ry h
  obtain ⟨a, j, rfl, rfl, h0, h1, h2, h3, q⟩ := h
  obtain ⟨t, rfl⟩ := rx
  obtain ⟨t', rfl⟩ := ry
  have hz : a.length * j.toNat ≤ 1000000 := Nat.le_trans (Nat.mul_le_mul h2 (show j.toNat ≤ 1000 by omega)) (by decide)
  have hs : sizeLine = 16777216 := sizeLine_eq
  refine PySem.P.mul_str (by simp; omega) (fun g1 g2 => ?_) (fun g1 g2 => ?_) ?_
  · have hj : 1 ≤ j := by omega
    have : (1000 : Int) * j ≤ 2 ^ 63 - 1 := by omega
    have := Int.le_ediv_of_mul_le (show 0 < j by omega) this
    omega
  · unfold Builtin.Str.tooLong
    simp; omega
  · unfold mulS at q h3
    split
    · rename_i g
      rw [if_pos g] at q h3
      exact ⟨by omega, .str _, H, I.tok _, ⟨_, rfl⟩, q⟩
    · rename_i g
      rw [if_neg g] at q h3
      split
      · rename_i g2
        rw [if_pos g2] at q
        exact ⟨.str _, H, I, ⟨_, rfl⟩, q⟩
      · rename_i g2
        rw [if_neg g2] at q h3
        exact ⟨by omega, .str _, H, I.tok _, ⟨_, rfl⟩, q⟩
def rDivW : R2 := rI (fun i j => 0 < j ∧ j.natAbs < 2 ^ 8000) fun i j => .int (i / j)
def rB (K : PySem.W.Frag) : Bop → R2
  | .add => fun x y H Q => rI0 (fun i j => .int (i + j)) x y H Q ∨ rStr2 x y H Q ∨ rCat x y H Q ∨ rCatA K x y H Q
  | .sub => rI0 fun i j => .int (i - j)
  | .mul => fun x y H Q => rI CMul (fun i j => .int (i * j)) x y H Q ∨ rMulW x y H Q ∨ rRep x y H Q ∨ rMulS x y H Q
  | .fdiv => rDivW
  | .mod => rI (fun _ j => j ≠ 0) fun i j => .int (i.fmod j)
  | .pow => rI CPow fun i j => .int (i ^ j.toNat)
  | .shl => rI CPow fun i j => .int (i * 2 ^ j.toNat)
  | .shr => rI (fun _ j => 0 ≤ j) fun i j => .int (i / 2 ^ j.toNat)
section
variable {X : Cx}
theorem op_B (o : Bop) : OpR X (binaryOp (opOf o)) (rB X.K o) := by
  cases o with
  | add => exact op_add.or (op_add_str.or (op_cat.or op_catA))
  | sub => exact op_sub
  | mul =>
    have hw : OpR X (binaryOp .Mult) rMulW := fun pins s σ H x y v u Q I rx ry ⟨i, j, e1, e2, ⟨h1, h2⟩, q⟩ =>
      op_mulW pins s σ H x y v u Q I rx ry ⟨i, j, e1, e2, wide_mul h1 h2 (by decide) (by decide) (by decide), q⟩
    exact op_mul.or (hw.or (op_rep.or op_mulS))
  | fdiv => exact fun pins s σ H x y v u Q I rx ry ⟨i, j, e1, e2, ⟨h1, h2⟩, q⟩ =>
      op_fdivW pins s σ H x y v u Q I rx ry ⟨i, j, e1, e2, wide_div h1 h2 (by decide) (by decide), q⟩
  | mod => exact op_modN
  | pow => exact op_pow
  | shl => exact op_shl
  | shr => exact op_shr
end
theorem lt64 {i : Int} (h : i.natAbs < 2 ^ 63) : -(2 ^ 64) < i ∧ i < 2 ^ 64 := by
  have : (2 : Nat) ^ 63 = 9223372036854775808 := by decide
  omega
section
variable {K : PySem.W.Frag} {C : Cl} {ρ : List Addr} {H : Hp} {h : List O} {Q : VK} {W : Value → Option Addr → Hp → Prop} {x y : D} {u w : V}
theorem stuck_no {α β : Type} {R : List Addr → Hp → α → β → Prop} {Q : β → Hp → Prop} {P : Prop} (p : Post K C R ρ H .stuck Q W) : P := False.elim p
theorem int_end {i : Int} (R : RelH K C ρ H h) (p : Post K C (Rep K C) ρ H (.ok (.int i) h) Q W) : Q (.int i) H := p.ok_ R (rep_int.mpr rfl)
theorem bin_ok {o : Bop} (R : RelH K C ρ H h) (rx : Rep K C ρ H x u) (ry : Rep K C ρ H y w) (p : Post K C (Rep K C) ρ H (binI o x y h) Q W) : rB K o u w H Q := by
  unfold binI at p
  split at p
  · cases rep_int.mp rx; cases rep_int.mp ry
    exact .inl ⟨_, _, rfl, rfl, int_end R p⟩
  · cases rep_int.mp rx; cases rep_int.mp ry
    exact ⟨_, _, rfl, rfl, int_end R p⟩
  · cases rep_int.mp rx; cases rep_int.mp ry
    split at p
    · rename_i hm
      unfold mulOk at hm
      simp only [Bool.or_eq_true, Bool.and_eq_true, decide_eq_true_eq] at hm
      rcases hm with (hm | hm) | hm
      · exact .inl ⟨_, _, rfl, rfl, .inl (lt64 hm), int_end R p⟩
      · exact .inl ⟨_, _, rfl, rfl, .inr (lt64 hm), int_end R p⟩
      · exact .inr (.inl ⟨_, _, rfl, rfl, hm, int_end R p⟩)
    · exact stuck_no p
  · cases rep_int.mp rx; cases rep_int.mp ry
    split at p
    · rename_i hm
      exact ⟨_, _, rfl, rfl, hm, int_end R p⟩
    · exact stuck_no p
  · cases rep_int.mp rx; cases rep_int.mp ry
    split at p
    · rename_i hm
      exact ⟨_, _, rfl, rfl, hm, int_end R p⟩
    · exact stuck_no p
  · cases rep_int.mp rx; cases rep_int.mp ry
    split at p
    · rename_i hm
      exact ⟨_, _, rfl, rfl, ⟨hm.1, Int.le_trans hm.2.1 (by decide), hm.2.2⟩, int_end R p⟩
    · exact stuck_no p
  · cases rep_int.mp rx; cases rep_int.mp ry
    split at p
    · rename_i hm
      exact ⟨_, _, rfl, rfl, ⟨hm.1, Int.le_trans hm.2.1 (by decide), hm.2.2⟩, int_end R p⟩
    · exact stuck_no p
  · cases rep_int.mp rx; cases rep_int.mp ry
    split at p
    · rename_i hm
      exact ⟨_, _, rfl, rfl, hm, int_end R p⟩
    · exact stuck_no p
  · cases rep_str.mp rx; cases rep_str.mp ry
    split at p
    · rename_i hm
      exact .inr (.inl ⟨_, _, rfl, rfl, limOk hm, p.ok_ R (rep_str.mpr rfl)⟩)
    · exact stuck_no p
  · obtain ⟨a, vs, rfl, ta, ra⟩ := rep_tup.mp rx
    obtain ⟨b, us, rfl, tb, rb⟩ := rep_tup.mp ry
    split at p
    · rename_i hm
      refine .inr (.inr (.inr ⟨a, b, vs, us, rfl, rfl, ta.sq, tb.sq, ?_, ?_, ?_, fun _ _ => new_tup R (ra.append rb) p⟩))
      · rw [ra.length, rb.length]; exact limOk hm
      · intro z
        have := ra.length
        rw [z] at this
        obtain rfl := List.length_eq_zero_iff.mp this.symm
        exact p.ok_ R ry
      · intro _ z
        have := rb.length
        rw [z] at this
        obtain rfl := List.length_eq_zero_iff.mp this.symm
        rw [List.append_nil] at p
        exact p.ok_ R rx
    · exact stuck_no p
  · split at p
    · rename_i h1 h2
      split at p
      · rename_i hm
        obtain ⟨a, vs, _, rfl, ha, ra⟩ := obj_lst R h1 rx
        obtain ⟨b, us, _, rfl, hb, rb⟩ := obj_lst R h2 ry
        refine .inr (.inr (.inl ⟨a, b, vs, us, rfl, rfl, ha, hb, ?_, new_lst R (ra.append rb) p⟩))
        rw [ra.length, rb.length]; exact limOk hm
      · exact stuck_no p
    · exact stuck_no p
  · cases rep_str.mp rx; cases rep_int.mp ry
    split at p
    · rename_i hm
      exact .inr (.inr (.inr ⟨_, _, rfl, rfl, hm.1.1, hm.1.2.1, hm.1.2.2, hm.2, p.ok_ R (rep_str.mpr rfl)⟩))
    · exact stuck_no p
  · split at p
    · rename_i h1
      split at p
      · rename_i hm
        obtain ⟨a, vs, _, rfl, ha, ra⟩ := obj_lst R h1 rx
        cases rep_int.mp ry
        refine .inr (.inr (.inl ⟨a, _, vs, rfl, rfl, ha, by omega, by omega, ?_, new_lst R ?_ p⟩))
        · rw [ra.length]
          refine Nat.le_trans (Nat.mul_le_mul hm.2.2 (show _ ≤ 1000 by omega)) (by decide)
        · generalize Int.toNat _ = n
          induction n with
          | zero => exact Reps.nil
          | succ n ih =>
            rw [List.replicate_succ, List.replicate_succ, List.flatten_cons, List.flatten_cons]
            exact ra.append ih
      · exact stuck_no p
    · exact stuck_no p
  · exact stuck_no p
end
end Mi

set_option Elab.async false
set_option linter.all false
set_option maxRecDepth 100000
set_option maxHeartbeats 1000000
/-! Mi4: comparisons, truth, isinstance, calls of built-ins, methods of lists. -/
namespace Mi
open PySem L2
section
variable {K : PySem.W.Frag} {C : Cl} {ρ : List Addr} {H : Hp} {h : List O} {Q : VK} {W : Value → Option Addr → Hp → Prop} {x y : D} {u w : V}
theorem optAll_dp {n : Nat} (ih : ∀ d v pd, Rep K C ρ H d v → toPD n h d = some pd → Dp K H v pd) : ∀ (ds : List D) (vs : List V) (l : List PyData), Reps K C ρ H ds vs → optAll (ds.map (toPD n h)) = some l → DpAll K H vs l
  | [], vs, l, r, e => by
    rw [Reps] at r; subst r
    cases e
    exact .nil
  | d :: ds, vs, l, r, e => by
    rw [Reps] at r
    obtain ⟨v, us, rfl, a, b⟩ := r
    simp only [List.map_cons] at e
    cases q : toPD n h d with
    | none => rw [q] at e; cases e
    | some pd =>
      rw [q] at e
      unfold optAll at e
      cases q2 : optAll (ds.map (toPD n h)) with
      | none => rw [q2] at e; cases e
      | some l2 =>
        rw [q2] at e
        cases e
        exact .cons (ih d v pd a q) (optAll_dp ih ds us l2 b q2)
theorem toPD_dp (R : RelH K C ρ H h) : ∀ (n : Nat) (d : D) (v : V) (pd : PyData), Rep K C ρ H d v → toPD n h d = some pd → Dp K H v pd := by
  intro n
  induction n with
  | zero =>
    intro d v pd r e
    cases d with
    | non => cases rep_non.mp r; cases e; exact .non
    | bl b => cases rep_bl.mp r; cases e; exact .bl b
    | int b => cases rep_int.mp r; cases e; exact .int b
    | str b => cases rep_str.mp r; cases e; exact .str b
    | _ => cases e
  | succ n ih =>
    intro d v pd r e
    cases d with
    | non => cases rep_non.mp r; cases e; exact .non
    | bl b => cases rep_bl.mp r; cases e; exact .bl b
    | int b => cases rep_int.mp r; cases e; exact .int b
    | str b => cases rep_str.mp r; cases e; exact .str b
    | tup ds =>
      obtain ⟨p, vs, rfl, t, z⟩ := rep_tup.mp r
      unfold toPD at e
      cases q : optAll (ds.map (toPD n h)) with
      | none => simp only [q] at e; cases e
      | some l =>
        simp only [q] at e
        cases e
        exact .tup t.sq (optAll_dp ih ds vs l z q)
    | lsF ds =>
      obtain ⟨p, vs, rfl, t, z⟩ := rep_lsF.mp r
      unfold toPD at e
      cases q : optAll (ds.map (toPD n h)) with
      | none => simp only [q] at e; cases e
      | some l =>
        simp only [q] at e
        cases e
        exact .lst t.sq (optAll_dp ih ds vs l z q)
    | obj i =>
      unfold toPD at e
      cases q : h[i]? with
      | none => simp only [q] at e; cases e
      | some o =>
        cases o with
        | lst ds =>
          obtain ⟨a, vs, _, rfl, hH, z⟩ := obj_lst R q r
          simp only [q] at e
          cases q2 : optAll (ds.map (toPD n h)) with
          | none => simp only [q2] at e; cases e
          | some l =>
            simp only [q2] at e
            cases e
            exact .lst (SqL.of hH) (optAll_dp ih ds vs l z q2)
        | _ => simp only [q] at e; cases e
    | sale a b => cases e
    | adr a => cases e
def bl_end {b : Bool} (R : RelH K C ρ H h) (p : Post K C (Rep K C) ρ H (.ok (.bl b) h) Q W) : Q (.bl b) H := p.ok_ R (rep_bl.mpr rfl)
theorem eq_ok {b : Bool} (R : RelH K C ρ H h) (rx : Rep K C ρ H x u) (ry : Rep K C ρ H y w) (e : eqI x y h = some b) (q : Q (.bl b) H) : rEqD K u w H Q := by
  unfold eqI at e
  cases q1 : toPD 6 h x with
  | none => simp only [q1] at e; cases e
  | some a =>
    cases q2 : toPD 6 h y with
    | none => simp only [q1, q2] at e; cases e
    | some c =>
      simp only [q1, q2] at e
      split at e
      · rename_i hs
        obtain ⟨s1, s2⟩ := Bool.and_eq_true_iff.mp hs
        cases e
        exact ⟨a, c, toPD_dp R 6 x u a rx q1, toPD_dp R 6 y w c ry q2, s1, s2, q⟩
      · cases e
theorem ne_ok {b : Bool} (R : RelH K C ρ H h) (rx : Rep K C ρ H x u) (ry : Rep K C ρ H y w) (e : eqI x y h = some b) (q : Q (.bl (!b)) H) : rNeD K u w H Q := by
  obtain ⟨a, c, h1, h2, s1, s2, q'⟩ := eq_ok (Q := fun v H => v = .bl b) R rx ry e rfl
  exact ⟨a, c, h1, h2, s1, s2, by injection q' with q'; rw [q']; exact q⟩
theorem flat_rep {d : D} {v : V} (f : flatD d = true) (r : Rep K C ρ H d v) : flatV v = true ∧ ∀ (d' : D) (v' : V), flatD d' = true → Rep K C ρ H d' v' → eqV v v' = eqF d d' := by
  cases d with
  | non =>
    cases rep_non.mp r
    refine ⟨rfl, fun d' v' f' r' => ?_⟩
    cases d' with
    | non => cases rep_non.mp r'; rfl
    | bl b => cases rep_bl.mp r'; rfl
    | int b => cases rep_int.mp r'; rfl
    | str b => cases rep_str.mp r'; rfl
    | _ => cases f'
  | bl c =>
    cases rep_bl.mp r
    refine ⟨rfl, fun d' v' f' r' => ?_⟩
    cases d' with
    | non => cases rep_non.mp r'; rfl
    | bl b => cases rep_bl.mp r'; rfl
    | int b => cases rep_int.mp r'; rfl
    | str b => cases rep_str.mp r'; rfl
    | _ => cases f'
  | int c =>
    cases rep_int.mp r
    refine ⟨rfl, fun d' v' f' r' => ?_⟩
    cases d' with
    | non => cases rep_non.mp r'; rfl
    | bl b => cases rep_bl.mp r'; rfl
    | int b => cases rep_int.mp r'; rfl
    | str b => cases rep_str.mp r'; rfl
    | _ => cases f'
  | str c =>
    cases rep_str.mp r
    refine ⟨rfl, fun d' v' f' r' => ?_⟩
    cases d' with
    | non => cases rep_non.mp r'; rfl
    | bl b => cases rep_bl.mp r'; rfl
    | int b => cases rep_int.mp r'; rfl
    | str b => cases rep_str.mp r'; rfl
    | _ => cases f'
  | _ => cases f
theorem in_flat {ds : List D} {vs : List V} (fx : flatD x = true) (rx : Rep K C ρ H x u) (fs : ds.all flatD = true) (r : Reps K C ρ H ds vs) : vs.all flatV = true ∧ inV u vs = ds.any fun z => eqF z x := by
  unfold inV
  induction ds generalizing vs with
  | nil => rw [Reps] at r; subst r; exact ⟨rfl, rfl⟩
  | cons d ds ih =>
    rw [Reps] at r
    obtain ⟨v, us, rfl, a, b⟩ := r
    simp only [List.all_cons, Bool.and_eq_true] at fs
    obtain ⟨h1, h2⟩ := ih fs.2 b
    obtain ⟨k1, k2⟩ := flat_rep fs.1 a
    refine ⟨by simp [k1, h1], ?_⟩
    simp only [List.any_cons]
    rw [h2, k2 x u fx rx]
theorem in_ok {b neg : Bool} (R : RelH K C ρ H h) (rx : Rep K C ρ H x u) (ry : Rep K C ρ H y w) (e : inI x y h = some b) (q : Q (.bl (if neg then !b else b)) H) :
    rIn K neg u w H Q ∨ (if neg then rNotInD K u w H Q else rInD K u w H Q) := by
  unfold inI at e
  cases q1 : itemsOf y h with
  | none => simp only [q1] at e; cases e
  | some ds =>
    simp only [q1] at e
    obtain ⟨p, vs, rfl, r, s⟩ := items_sq R ry q1
    split at e
    · rename_i hf
      obtain ⟨f1, f2⟩ := Bool.and_eq_true_iff.mp hf
      cases e
      obtain ⟨g1, g2⟩ := in_flat f1 rx f2 r
      exact .inl ⟨p, vs, rfl, s.elim (fun z => .inl z.2) (fun z => .inr z.2), (flat_rep f1 rx).1, g1, by rw [g2]; exact q⟩
    · split at e
      · rename_i hl
        rcases s with ⟨_, s⟩ | ⟨hl', _⟩
        · cases q2 : toPD 6 h x with
          | none => simp only [q2] at e; cases e
          | some a =>
            cases q3 : optAll (ds.map (toPD 6 h)) with
            | none => simp only [q2, q3] at e; cases e
            | some l =>
              simp only [q2, q3] at e
              split at e
              · rename_i hs
                obtain ⟨s1, s2⟩ := Bool.and_eq_true_iff.mp hs
                cases e
                have dp : DpAll K H vs l := optAll_dp (fun d v pd => toPD_dp R 6 d v pd) ds vs l r q3
                refine .inr ?_
                cases neg with
                | true => exact ⟨a, l, toPD_dp R 6 x u a rx q2, .lst s dp, s1, s2, q⟩
                | false => exact ⟨a, l, toPD_dp R 6 x u a rx q2, .lst s dp, s1, s2, q⟩
              · cases e
        · rw [hl] at hl'; cases hl'
      · cases e
def cOf : Cop → CmpOp
  | .eq => .Eq
  | .ne => .NotEq
  | .lt => .Lt
  | .le => .LtE
  | .gt => .Gt
  | .ge => .GtE
  | .inn => .In
  | .nin => .NotIn
def rC (K : PySem.W.Frag) : Cop → R2
  | .eq => rEqD K
  | .ne => rNeD K
  | .lt => rI0 fun i j => .bl (decide (i < j))
  | .le => rI0 fun i j => .bl (decide (i ≤ j))
  | .gt => rI0 fun i j => .bl (decide (j < i))
  | .ge => rI0 fun i j => .bl (decide (j ≤ i))
  | .inn => fun x y H Q => rIn K false x y H Q ∨ rInD K x y H Q
  | .nin => fun x y H Q => rIn K true x y H Q ∨ rNotInD K x y H Q
theorem op_C {X : Cx} (hu : X.A.units + 65 < cLine) (o : Cop) : OpR X (compareOp (cOf o)) (rC X.K o) := by
  cases o with
  | eq => exact op_eqD (by omega)
  | ne => exact op_neD (by omega)
  | lt => exact op_lt
  | le => exact op_le
  | gt => exact op_gt
  | ge => exact op_ge
  | inn => exact op_in_seq.or (op_inD hu)
  | nin => exact op_notIn_seq.or (op_notInD hu)
theorem cmp_ok {o : Cop} {b : Bool} (R : RelH K C ρ H h) (rx : Rep K C ρ H x u) (ry : Rep K C ρ H y w) (e : cmpI o x y h = some b) (q : Q (.bl b) H) : rC K o u w H Q := by
  unfold cmpI at e
  cases o with
  | eq => exact eq_ok R rx ry e q
  | ne =>
    simp only [Option.map_eq_some_iff] at e
    obtain ⟨c, e1, rfl⟩ := e
    exact ne_ok R rx ry e1 q
  | inn => exact in_ok (neg := false) R rx ry e q
  | nin =>
    simp only [Option.map_eq_some_iff] at e
    obtain ⟨c, e1, rfl⟩ := e
    exact in_ok (neg := true) R rx ry e1 q
  | lt =>
    dsimp only at e
    split at e
    · cases rep_int.mp rx; cases rep_int.mp ry; cases e; exact ⟨_, _, rfl, rfl, q⟩
    · cases e
  | le =>
    dsimp only at e
    split at e
    · cases rep_int.mp rx; cases rep_int.mp ry; cases e; exact ⟨_, _, rfl, rfl, q⟩
    · cases e
  | gt =>
    dsimp only at e
    split at e
    · cases rep_int.mp rx; cases rep_int.mp ry; cases e; exact ⟨_, _, rfl, rfl, q⟩
    · cases e
  | ge =>
    dsimp only at e
    split at e
    · cases rep_int.mp rx; cases rep_int.mp ry; cases e; exact ⟨_, _, rfl, rfl, q⟩
    · cases e
theorem isEmpty_rep {ds : List D} {vs : List V} (r : Reps K C ρ H ds vs) : vs.isEmpty = ds.isEmpty := by
  cases ds with
  | nil => rw [Reps] at r; subst r; rfl
  | cons d ds => rw [Reps] at r; obtain ⟨v, us, rfl, _⟩ := r; rfl
theorem tru_rep {b : Bool} (R : RelH K C ρ H h) (rx : Rep K C ρ H x u) (e : truI x h = some b) : TruV K u H b := by
  cases x with
  | non => cases rep_non.mp rx; cases e; rfl
  | bl c => cases rep_bl.mp rx; cases e; rfl
  | int c => cases rep_int.mp rx; cases e; rfl
  | str c =>
    cases rep_str.mp rx
    unfold truI at e
    dsimp only at e
    split at e
    · rename_i hl
      cases e
      exact ⟨limOk hl, rfl⟩
    · cases e
  | tup ds =>
    obtain ⟨p, vs, rfl, t, r⟩ := rep_tup.mp rx
    cases e
    exact .inr (.inl ⟨vs, t.sq, by rw [isEmpty_rep r]⟩)
  | lsF ds =>
    obtain ⟨p, vs, rfl, t, r⟩ := rep_lsF.mp rx
    cases e
    exact .inl ⟨vs, t.sq, by rw [isEmpty_rep r]⟩
  | obj i =>
    cases q : h[i]? with
    | none => simp only [truI, q] at e; cases e
    | some o =>
      simp only [truI, q] at e
      cases o with
      | lst ds =>
        cases e
        obtain ⟨a, vs, _, rfl, hH, r⟩ := obj_lst R q rx
        exact .inl ⟨vs, SqL.of hH, by rw [isEmpty_rep r]⟩
      | _ => cases e
  | sale a b => cases e
  | adr a => cases e
end
end Mi

set_option Elab.async false
set_option linter.all false
set_option maxRecDepth 100000
set_option maxHeartbeats 1000000
/-! Mi5: which text of the model stands for which text here; expressions. -/
namespace Mi
open PySem L2
/-- the names of the module: functions, methods by class, the classes' numbers -/
structure Tab where
  fns : List (Str × Nat)
  meths : List (Nat × Str × Nat)
  clsN : List (Str × Nat)
  flds : List (Nat × Str)
  /-- there is a class of sales -/
  sl : Bool := true
  /-- classes that are made: name, number, __init__ -/
  mks : List (Str × Nat × Nat) := []
  /-- classes that are asked for: except clauses, isinstance -/
  ask : List (Str × Nat) := []
  /-- the fields of exceptions -/
  xflds : List Str := []
  /-- the sale's own ==; its properties with the fields that they give -/
  eqF : List Nat := []
  props : List (Str × Str) := []
  /-- other properties: class, name, the getter's number -/
  cprops : List (Nat × Str × Nat) := []
def visB (sc : Scope) (x : Str) : Bool := match sc.names.lookup x with
  | some .local => true
  | some .cell => true
  | some .free => true
  | _ => false
def locB (sc : Scope) (x : Str) : Bool := match sc.names.lookup x with
  | some .local => true
  | some .cell => true
  | _ => false
def glB (sc : Scope) (x : Str) : Bool := decide (sc.names.lookup x = some .globalImplicit) && !(x == ("__debug__" : Str)) && !(x == ("__name__" : Str))
def notStar : Expr → Bool
  | .Starred _ _ => false
  | _ => true
def noStars : List Expr → Bool
  | [] => true
  | e :: es => notStar e && noStars es
def notSuper : Expr → Bool
  | .Call (.Name _ _) [] [] _ => false
  | _ => true
def notSlice : Expr → Bool
  | .Slice _ _ _ _ => false
  | _ => true
def plainT : Expr → Bool
  | .Name _ _ => true
  | .Call _ _ _ _ => true
  | .Attribute _ _ _ => true
  | .Subscript _ _ _ => true
  | .BinOp _ _ _ _ => true
  | .Constant _ _ _ => true
  | .Tuple _ _ _ => true
  | .List _ _ => true
  | .UnaryOp .USub _ _ => true
  | .ListComp _ _ _ _ => true
  | .Dict _ _ _ => true
  | _ => false
def noSet : Expr → Bool
  | .Set _ _ _ => false
  | _ => true
/-- a comprehension's own names -/
def namesL (sc : Scope) (N : List Str) : List Expr → List Nat → Bool
  | [], [] => true
  | .Name x _ :: ts, i :: is => decide (N[i]? = some x) && decide (sc.names.lookup x = some .local) && namesL sc N ts is
  | _, _ => false
def tgL (sc : Scope) (N : List Str) : Expr → List Nat → Bool
  | .Name x _, [i] => decide (N[i]? = some x) && decide (sc.names.lookup x = some .local)
  | .Tuple ts _ _, i :: j :: is => namesL sc N ts (i :: j :: is)
  | _, _ => false
def ownL (N : List Str) (vs : List Nat) : List (Str × Nat) := vs.filterMap fun i => (N[i]?).map (·, i)
def compB (N : List Str) (sc sc2 : Scope) (vs : List Nat) : Bool := blkC N sc sc2 (ownL N vs) && decide ((ownL N vs).map (·.2) = vs) && decide N.Nodup
def tyN : Ty → Str
  | .str => "str"
  | .int => "int"
  | .bool => "bool"
  | .tuple => "tuple"
  | .sale => "Sale"
def bfN : Bf → Str
  | .len => "len"
  | .abs => "abs"
  | .max => "max"
  | .int => "int"
  | .str => "str"
  | .list => "list"
  | .tuple => "tuple"
def bmN : Bm → Str
  | .append => "append"
  | .pop => "pop"
  | .extend => "extend"
  | .reverse => "reverse"
  | .split => "split"
  | .strip => "strip"
  | .join => "join"
/-- texts as keys -/
def keysB : List (Option Expr) → List Str → Bool
  | [], [] => true
  | some (.Constant (.str s) _ _) :: r, s' :: ks => decide (s = s') && keysB r ks
  | _, _ => false
def okVs (p : Expr → E → Bool) : List Expr → Es → Bool
  | [], .nil => true
  | v :: vs, .cons A As => p v A && okVs p vs As
  | _, _ => false
/-- methods without an argument, with one -/
def bm0 : Bm → Bool
  | .pop => true
  | .reverse => true
  | .strip => true
  | _ => false
def isTup : Expr → Bool
  | .Tuple _ _ _ => true
  | _ => false
/-- range(a, b) or zip(a, b) -/
def twoB (z : Bool) (x : Str) (tg : Expr) : Bool := match z with
  | true => decide (x = "zip") && isTup tg
  | false => decide (x = "range")
def bm1 : Bm → Bool
  | .append => true
  | .extend => true
  | .split => true
  | .join => true
  | .strip => true
  | _ => false
def esLen : Es → Nat
  | .nil => 0
  | .cons _ es => esLen es + 1
  | .star _ es => esLen es + 1
def hasStar : List Expr → Bool
  | [] => false
  | e :: es => !(notStar e) || hasStar es
def okStars (f : Expr → E → Bool) : List Expr → Es → Bool
  | [], .nil => true
  | .Starred e _ :: es, .star A As => f e A && okStars f es As
  | e :: es, .cons A As => notStar e && f e A && okStars f es As
  | _, _ => false
/-- further words, by a step -/
def okW (T : Tab) (sc : Scope) (f : Expr → E → Bool) (g : List Expr → Es → Bool) (e : Expr) (A : E) : Bool := match A with
  | .nin neg A B => (match e with
    | .Compare a [o] [b] _ => decide (o = if neg = true then .NotIn else .In) && !(behindInMarks o b) && f a A && f b B
    | _ => false)
  | .neT n A B => (match e with
    | .Compare a [o] [b] _ => decide (o = .NotEq) && T.eqF.contains n && !(behindInMarks o b) && f a A && f b B
    | _ => false)
  | .nget A B => (match e with
    | .Subscript a i _ => notSlice i && f a A && f i B
    | _ => false)
  | .nnew => (match e with
    | .Dict [] [] _ => true
    | _ => false)
  | .dnew _ => (match e with
    | .Dict [] [] _ => true
    | _ => false)
  | .d1 A B => (match e with
    | .Dict [some a] [b] _ => f a A && f b B
    | _ => false)
  | .rev A => (match e with
    | .Subscript a (.Slice none none (some (.UnaryOp .USub (.Constant (.int i) _ _) _)) _) _ => decide (i = 1) && f a A
    | _ => false)
  | .slH A B => (match e with
    | .Subscript a (.Slice none (some b) none _) _ => f a A && f b B
    | _ => false)
  | .slT A B => (match e with
    | .Subscript a (.Slice (some b) none none _) _ => f a A && f b B
    | _ => false)
  | .call n (.cons A As) => (match e with
    | .Call (.Name x _) (a :: es) [] _ => T.fns.contains (x, n) && glB sc x && notStar a && hasStar es && f a A && okStars f es As
    | _ => false)
  | .call n .nil => (match e with
    | .Call (.Name x _) [] [] _ => T.fns.contains (x, n) && glB sc x
    | _ => false)
  | .lst As => (match e with
    | .List es _ => hasStar es && okStars f es As
    | _ => false)
  | .prop c n A => (match e with
    | .Attribute o x _ => T.cprops.contains (c, x, n) && notSuper o && f o A
    | _ => false)
  | .lenO c n A => (match e with
    | .Call (.Name x _) [o] [] _ => decide (x = "len") && T.meths.contains (c, "__len__", n) && glB sc x && notStar o && f o A
    | _ => false)
  | .lrange A => (match e with
    | .Call (.Name y _) [.Call (.Name x _) [a] [] _] [] _ => decide (y = "list") && decide (x = "range") && glB sc y && glB sc x && notStar a && f a A
    | _ => false)
  | _ => false
mutual
def okE (T : Tab) (G : List (Str × D)) (sc : Scope) (N : List Str) : Nat → Expr → E → Bool
  | 0, _, _ => false
  | n + 1, e, A => okW T sc (fun e A => okE T G sc N n e A) (fun es As => okEs T G sc N n es As) e A || match e, A with
    | _, .bad => true
    | e, .apE _ A => plainT e && okE T G sc N n e A
    | .Name x _, .var i => decide (N[i]? = some x) && visB sc x && !(x == ("__debug__" : Str)) && !(x == ("__classdict__" : Str))
    | .Name x _, .glob i => (match G[i]? with
      | some p => decide (p.1 = x)
      | none => false) && glB sc x
    | .Constant (.int i) _ _, .cst (.int j) => decide (i = j)
    | .Constant (.bool i) _ _, .cst (.bl j) => decide (i = j)
    | .Constant (.str i) _ _, .cst (.str j) => decide (i = j)
    | .Constant .none _ _, .cst .non => true
    | .BinOp a o b _, .bin p A B => decide (o = opOf p) && okE T G sc N n a A && okE T G sc N n b B
    | .UnaryOp .USub a _, .neg A => okE T G sc N n a A
    | .UnaryOp .Not a _, .not A => okE T G sc N n a A
    | .BoolOp .And [a] _, A => okE T G sc N n a A
    | .BoolOp .Or [a] _, A => okE T G sc N n a A
    | .BoolOp .And (a :: b :: r) p, .and A B => okE T G sc N n a A && okE T G sc N n (.BoolOp .And (b :: r) p) B
    | .BoolOp .Or (a :: b :: r) p, .or A B => okE T G sc N n a A && okE T G sc N n (.BoolOp .Or (b :: r) p) B
    | .Compare a [o] [b] _, A' => (match A' with
      | .cmp p A B => decide (o = cOf p) && !(behindInMarks o b) && okE T G sc N n a A && okE T G sc N n b B
      | .eqS f A B => T.sl && decide (o = .Eq) && T.eqF.contains f && !(behindInMarks o b) && okE T G sc N n a A && okE T G sc N n b B
      | .isN A => (match o, b with
        | .Is, .Constant .none _ _ => okE T G sc N n a A
        | _, _ => false)
      | .notN A => (match o, b with
        | .IsNot, .Constant .none _ _ => okE T G sc N n a A
        | _, _ => false)
      | _ => false)
    | .Compare a [o, o'] [b, c] _, .chain p p' A B D => decide (o = cOf p) && decide (o' = cOf p') && !(lastMarks [o, o'] [b, c]) && okE T G sc N n a A && okE T G sc N n b B && okE T G sc N n c D
    | .IfExp c a b _, .ite D A B => okE T G sc N n c D && okE T G sc N n a A && okE T G sc N n b B
    | .Tuple es _ _, .tup As => okEs T G sc N n es As
    | .List es _, A' => (match A' with
      | .lst As => okEs T G sc N n es As
      | .lstF As => okEs T G sc N n es As
      | _ => false)
    | .Attribute o f _, A' => (match A' with
      | .fld A g => T.sl && decide (f = g) && notSuper o && okE T G sc N n o A
      | .fldC c A g => decide (f = g) && T.flds.contains (c, g) && notSuper o && okE T G sc N n o A
      | .sprop p g A => T.sl && decide (f = p) && T.props.contains (p, g) && notSuper o && okE T G sc N n o A
      | _ => false)
    | .Subscript a i _, A' => (match A' with
      | .idx A B => notSlice i && okE T G sc N n a A && okE T G sc N n i B
      | .didxS ks As B => (match a with
        | .Dict keys vals _ => notSlice i && keysB keys ks && decide (ks.length = vals.length) && decide (keys.length = vals.length) && decide ks.Nodup && decide (ks.length ≤ 15) && decide (ks ≠ []) && okVs (okE T G sc N n) vals As && okE T G sc N n i B
        | _ => false)
      | _ => false)
    | .ListComp elt [⟨tg, it, ifs, 0⟩] sc2 _, .comp vs tgs k I Cc Et => compB N sc sc2 vs && tgL (relS sc2 sc) N tg tgs && tgs.all (fun i => vs.contains i) && noSet it && okE T G sc N n it I && (match ifs with
      | [] => !k
      | [c] => k && okE T G (relS sc2 sc) N n c Cc
      | _ => false) && okE T G (relS sc2 sc) N n elt Et
    | .ListComp elt [⟨tg, .Call (.Name x _) [a] [] _, ifs, 0⟩] sc2 _, .comp1 vs j k I Cc Et => compB N sc sc2 vs && tgL (relS sc2 sc) N tg [j] && vs.contains j && decide (x = "range") && glB sc x && notStar a && okE T G sc N n a I && (match ifs with
      | [] => !k
      | [c] => k && okE T G (relS sc2 sc) N n c Cc
      | _ => false) && okE T G (relS sc2 sc) N n elt Et
    | .ListComp elt [⟨tg, .Call (.Name x _) [a, b] [] _, ifs, 0⟩] sc2 _, .comp2 vs tgs z k I J Cc Et => compB N sc sc2 vs && tgL (relS sc2 sc) N tg tgs && tgs.all (fun i => vs.contains i) && twoB z x tg && glB sc x && notStar a && notStar b && okE T G sc N n a I && okE T G sc N n b J && (match ifs with
      | [] => !k
      | [c] => k && okE T G (relS sc2 sc) N n c Cc
      | _ => false) && okE T G (relS sc2 sc) N n elt Et
    | .Call (.Attribute o m ap) as [] pos, A' => (match A' with
      | .meth c m2 f A As => decide (m = m2) && T.meths.contains (c, m, f) && notSuper o && (Pos.endLine ap == Pos.line pos) && okE T G sc N n o A && noStars as && decide (as.length < 21) && okEs T G sc N n as As
      | .bm b A As => decide (m = bmN b) && notSuper o && (Pos.endLine ap == Pos.line pos) && okE T G sc N n o A && (match as, As with
        | [], .nil => bm0 b
        | [e], .cons B .nil => bm1 b && notStar e && okE T G sc N n e B
        | _, _ => false)
      | .dgetS ks As B D => (match o, as with
        | .Dict keys vals _, [a, b] => decide (m = "get") && (Pos.endLine ap == Pos.line pos) && keysB keys ks && decide (ks.length = vals.length) && decide (keys.length = vals.length) && decide ks.Nodup && decide (ks.length ≤ 15) && decide (ks ≠ []) && notStar a && notStar b && okVs (okE T G sc N n) vals As && okE T G sc N n a B && okE T G sc N n b D
        | _, _ => false)
      | _ => false)
    | .Call (.Name x _) [] [] _, .mk c f .nil => T.mks.contains (x, c, f) && glB sc x
    | .Call (.Name x _) (e :: es) [] _, A' => (match A' with
      | .mkSale A B => T.sl && decide (x = "Sale") && glB sc x && notStar e && noStars es && okE T G sc N n e A && (match es with
        | [e2] => okE T G sc N n e2 B
        | _ => false)
      | .mk c f (.cons A As) => T.mks.contains (x, c, f) && glB sc x && notStar e && noStars es && okE T G sc N n e A && okEs T G sc N n es As
      | .call f (.cons A As) => T.fns.contains (x, f) && glB sc x && notStar e && noStars es && okE T G sc N n e A && okEs T G sc N n es As
      | .callP f (.cons A As) => T.fns.contains (x, f) && glB sc x && notStar e && noStars es && okE T G sc N n e A && okEs T G sc N n es As
      | .isi A t => (T.sl || decide (t ≠ .sale)) && decide (x = "isinstance") && glB sc x && notStar e && okE T G sc N n e A && (match es with
        | [.Name y _] => decide (y = tyN t) && glB sc y
        | _ => false)
      | .bf b (.cons A As) => decide (x = bfN b) && glB sc x && notStar e && noStars es && okE T G sc N n e A && okEs T G sc N n es As
      | _ => false)
    | _, _ => false
def okEs (T : Tab) (G : List (Str × D)) (sc : Scope) (N : List Str) : Nat → List Expr → Es → Bool
  | 0, _, _ => false
  | n + 1, es, As => match es, As with
    | [], .nil => true
    | e :: es, .cons A As => notStar e && okE T G sc N n e A && okEs T G sc N n es As
    | _, _ => false
end
end Mi

set_option Elab.async false
set_option linter.all false
set_option maxRecDepth 100000
set_option maxHeartbeats 1000000
/-! Mi6: the expressions do what their texts do here. -/
namespace Mi
open PySem L2

/-- what a function promises: what the text of that number does -/
def spI (K : PySem.W.Frag) (C : Cl) (F : Fns) (f : Nat) : Sp := fun vs H Q E => ∃ ρ h ds, RelH K C ρ H h ∧ Reps K C ρ H ds vs ∧ Post K C (Rep K C) ρ H (F.fn f ds h) Q E
/-- the sale's class -/
structure SaleK (K : PySem.W.Frag) (C : Cl) : Prop where
  cl : Cls K C.sale
  nT : NoAttr K C.sale "taker"
  nF : NoAttr K C.sale "favoured"
  a1 : PySem.W.findIn K (.ref C.sale) "__class__" = some (some (.builtin "object.__class__"))
  a2 : PySem.W.specialIn K (.builtin "object.__class__") "__get__" = some (some (.builtin "getset_descriptor.__get__"))
  a3 : PySem.W.takesIn K (.builtin "object.__class__") = some true
  a4 : PySem.W.mroIn K C.sale (.type "object") = some true
  i0 : ∀ t ∈ ["str", "int", "bool", "tuple"], PySem.W.kitOne K (.ref C.sale) (.type t) = some false
  i1 : PySem.W.kitOne K (.ref C.sale) (.ref C.sale) = some true
  nf : ∀ t ∈ ["NoneType", "bool", "int", "str", "tuple", "list"], PySem.W.notFirst K C.sale (.type t) = true
  i2 : ∀ t ∈ ["NoneType", "bool", "int", "str", "tuple", "list"], PySem.W.kitOne K (.type t) (.ref C.sale) = some false
def frees : List Str := ["isinstance", "len", "abs", "max", "int", "str", "list", "tuple", "bool", "range", "enumerate", "zip"]
/-- the module as the top has left it -/
structure KOk (T : Tab) (C : Cl) (G : List (Str × D)) (K : PySem.W.Frag) (mg : Str → Option Value) : Prop where
  glob : ∀ p ∈ G, ∃ v u, mg p.1 = some u ∧ RelV v u ∧ ∀ ρ H, Rep K C ρ H p.2 v
  free : ∀ x ∈ frees, mg x = none
  sale : T.sl = true → SaleK K C
  saleG : T.sl = true → mg "Sale" = some (.ref C.sale)
structure FnAt (P : Program) (w : World) (K : PySem.W.Frag) (mg : Str → Option Value) (base : Heap) (C : Cl) (F : Fns) (k : Nat) (a : Addr) (f : Nat) : Prop where
  ex : ∃ fd ps, PySem.W.keepIn K (.ref a) = true ∧ Binds K fd ps [] ∧ FnOk P w K mg base (L2.CX P w) (2 * k) a fd ps (spI K C F f)
/-- what Sale.__init__ promises -/
def spS (K : PySem.W.Frag) (C : Cl) (F : Fns) : Sp := fun vs H Q E => ∃ ρ h H1 x dx d1 d2 v1 v2 Q0, vs = [.ref x, v1, v2] ∧ H = upd (upd H1 dx (.own x)) x (.ins C.sale dx []) ∧ H1 x = none ∧ H1 dx = none ∧ dx ≠ x ∧ RelH K C ρ H1 h ∧ Rep K C ρ H1 d1 v1 ∧ Rep K C ρ H1 d2 v2 ∧
  (∀ H', Q0 (.ref x) H' → Q .non H') ∧ Post K C (Rep K C) ρ H1 (F.mkS d1 d2 h) Q0 E
structure SalAt (P : Program) (w : World) (K : PySem.W.Frag) (mg : Str → Option Value) (base : Heap) (C : Cl) (F : Fns) (k : Nat) : Prop where
  ex : ∃ f fd ps, Mk K C.sale f ∧ Binds K fd ps [] ∧ FnOk P w K mg base (L2.CX P w) (2 * k) f fd ps (spS K C F)
/-- what a property's getter promises -/
def spP (K : PySem.W.Frag) (C : Cl) (F : Fns) (f : Str) : Sp := fun vs H Q _ => ∃ ρ h d v, vs = [v] ∧ RelH K C ρ H h ∧ Rep K C ρ H d v ∧ Post K C (Rep K C) ρ H (ofO (F.pr d f) h) Q (fun _ _ _ => False)
structure PrpAt (P : Program) (w : World) (K : PySem.W.Frag) (mg : Str → Option Value) (base : Heap) (C : Cl) (F : Fns) (k : Nat) (q : Str × Str) : Prop where
  ex : ∃ p g fd, PropOf K C.sale q.1 p g ∧ Binds K fd ["self"] [] ∧ FnOk P w K mg base (L2.CX P w) (2 * k) g fd ["self"] (spP K C F q.2)
/-- another property's getter -/
structure CprAt (P : Program) (w : World) (K : PySem.W.Frag) (mg : Str → Option Value) (base : Heap) (C : Cl) (F : Fns) (k : Nat) (y : Nat) (m : Str) (f : Nat) : Prop where
  ex : ∃ p g fd ps, Cls K (C.at_ y) ∧ PropOf K (C.at_ y) m p g ∧ Binds K fd ps [] ∧ FnOk P w K mg base (L2.CX P w) (2 * k) g fd ps (spI K C F f)
structure Ctx (T : Tab) (C : Cl) (F : Fns) (k : Nat) (sc : Scope) (N : List Str) (X : Cx) : Prop where
  hsc : X.env.scope = sc
  nm : X.N = N
  room : Room (2 * k + 1) X.A
  calm : X.calm = true
  kok : KOk T C F.gl X.K X.mg
  fns : ∀ x f, (x, f) ∈ T.fns → ∃ a, X.mg x = some (.ref a) ∧ FnAt X.prog X.w X.K X.mg X.base C F k a f
  cls : ∀ y m f, (y, m, f) ∈ T.meths → ∃ a, Cls X.K (C.at_ y) ∧ Meth X.K (C.at_ y) m a ∧ FnAt X.prog X.w X.K X.mg X.base C F k a f
  flds : ∀ p ∈ T.flds, Cls X.K (C.at_ p.1) ∧ NoAttr X.K (C.at_ p.1) p.2
  mks : ∀ x y f, (x, y, f) ∈ T.mks → ∃ a, X.mg x = some (.ref (C.at_ y)) ∧ Mk X.K (C.at_ y) a ∧ FnAt X.prog X.w X.K X.mg X.base C F k a f
  hsl : F.sl = T.sl
  hP : C.prog = X.prog
  hW : C.w = X.w
  sal : T.sl = true → SalAt X.prog X.w X.K X.mg X.base C F k
  eqs : ∀ f ∈ T.eqF, ∃ a, PySem.W.findIn X.K (.ref C.sale) "__eq__" = some (some (.ref a)) ∧ PySem.W.isFn X.K (.ref a) = true ∧ FnAt X.prog X.w X.K X.mg X.base C F k a f
  prD : ∀ d f d2, F.pr d f = some d2 → ∃ a b, d = .sale a b
  prs : ∀ q ∈ T.props, PrpAt X.prog X.w X.K X.mg X.base C F k q
  cprs : ∀ y m f, (y, m, f) ∈ T.cprops → CprAt X.prog X.w X.K X.mg X.base C F k y m f

section
variable {T : Tab} {C : Cl} {F : Fns} {k : Nat} {sc : Scope} {N : List Str} {X : Cx} {W : WX}
theorem Ctx.gl (c : Ctx T C F k sc N X) {x : Str} (h : glB sc x = true) : Gl X x ∧ (x == ("__debug__" : Str)) = false ∧ x ≠ "__name__" := by
  unfold glB at h
  simp only [Bool.and_eq_true, decide_eq_true_eq, Bool.not_eq_true'] at h
  obtain ⟨⟨h1, h2⟩, h3⟩ := h
  refine ⟨?_, h2, by simpa using h3⟩
  show X.env.scope.names.lookup x = _
  rw [c.hsc]; exact h1
theorem Ctx.vis (c : Ctx T C F k sc N X) {x : Str} (h : visB sc x = true) : Vis X.env.scope x := by
  unfold visB at h
  rw [c.hsc]
  unfold Vis
  split at h
  · rename_i e; exact .inl e
  · rename_i e; exact .inr (.inl e)
  · rename_i e; exact .inr (.inr e)
  · cases h
theorem star_of {e : Expr} {es : List Expr} {env : Env} (h : notStar e = true) : starEach (e :: es) env = (false, eval e env) :: starEach es env := by
  cases e <;> first | rfl | cases h
theorem noStars_any : ∀ {es : List Expr} {env : Env} {pos : Pos}, noStars es = true → (backTo pos (starEach es env)).any (·.1) = false
  | [], _, _, _ => rfl
  | e :: es, env, pos, h => by
    obtain ⟨h1, h2⟩ := Bool.and_eq_true_iff.mp (show (notStar e && noStars es) = true from h)
    rw [star_of h1]
    have := noStars_any (env := env) (pos := pos) h2
    unfold backTo at this ⊢
    simpa using this
theorem base_of {o : Expr} {f : Str} {env : Env} (h : notSuper o = true) : attributeBase o f env (eval o env) = eval o env := by
  cases o with
  | Call g as ks p =>
    cases g with
    | Name x q =>
      cases as with
      | nil => cases ks with
        | nil => cases h
        | cons _ _ => rfl
      | cons _ _ => rfl
    | _ => rfl
  | _ => rfl
theorem ix_of {i : Expr} (h : notSlice i = true) : PlainIx i := by
  intro o v
  cases i <;> first | rfl | cases h
/-- one argument more -/
theorem tAs_cons {e : E} {es : Es} {σ : St} {H : Hp} {Q : List V → Hp → Prop} (h : tAs X.K C F W (.cons e es) σ H Q) : tCons (tE X.K C F W e) (tAs X.K C F W es) σ H Q := by
  obtain ⟨ρ, h, en, R, RE, p⟩ := h
  rw [evEs] at p
  refine ⟨ρ, h, en, R, RE, p.step fun d h1 ρ1 H1 v g1 R1 r1 p1 => ?_⟩
  refine ⟨ρ1, h1, en, R1, RE.mono g1, p1.step fun ds h2 ρ2 H2 vs g2 R2 r2 p2 => ?_⟩
  exact p2.ok_ R2 (Reps.cons (r1.mono g2) r2)
theorem tAs_nil {σ : St} {H : Hp} {Q : List V → Hp → Prop} (h : tAs X.K C F W .nil σ H Q) : tNil σ H Q := by
  obtain ⟨ρ, h, en, R, RE, p⟩ := h
  rw [evEs] at p
  exact p.ok_ R Reps.nil
end

/-! ### calls of our functions -/
section
variable {X : Cx} {k : Nat} {f : Addr} {fd : FuncData} {ps : List Str} {sp : Sp} {x m : Str} {p pos apos : Pos} {e o : Expr} {es : List Expr} {ta : TE} {t : TA} {C : Addr} {W : WX}
/-- o.m(e, ..) of an instance of the class at C, errors wished for at the slots -/
def tMethS (C : Addr) (m : Str) (sp : Sp) (W : WX) (ta : TE) (t : TA) : TE := fun σ H Q => ta σ H fun x H1 => ∃ a dx fs, x = .ref a ∧ H1 a = some (.ins C dx fs) ∧ fs.lookup m = none ∧
  t σ H1 fun vs H2 => sp (x :: vs) H2 Q (WE W σ)
theorem pe_methS {pl : Sem Bool} (he : PE X o ta) (c : Cls X.K C) (hm : Meth X.K C m f) (G : FnOk X.prog X.w X.K X.mg X.base (L2.CX X.prog X.w) k f fd ps sp) (hr : Room k X.A) (hb : Binds X.K fd ps []) (tk : Takes X W) (ha : PA X (e :: es) t)
    (hst : starEach (e :: es) X.env = (false, eval e X.env) :: starEach es X.env) (hpl : (backTo pos (starEach es X.env)).any (·.1) = false)
    (ht : eval (.Call (.Attribute o m apos) (e :: es) [] pos) X.env = (do
      let ov ← eval o X.env
      standAt apos.atName
      let (g, first) ← holding [ov] (getMethod ov m pl)
      callWith pos g first (backTo pos (starEach (e :: es) X.env)) (backToKw pos (keywordEach [] X.env)))) :
    PE X (.Call (.Attribute o m apos) (e :: es) [] pos) (tMethS C m sp W ta t) := by
  refine ⟨fun pins s σ H Q I z => ?_⟩
  refine PySem.W.methodCall_KW (pl := pl) (thn (he.run pins s σ H _ I z) fun u s1 ⟨y, H1, I1, rx, a, dx, fs, ex, ea, l, q⟩ => ?_) ht
  subst ex
  obtain rfl : u = Value.ref a := rx
  refine getmeth_ok I1 ea c hm l ?_
  refine PySem.W.callWith_K (first := [.ref a]) (h₀ := X.base) I.ok.mod.kin hm.kp (thn (ha.run pos pins s1 σ H1 _ I1 q) fun us s2 ⟨vs, H2, I2, r, q2⟩ => ⟨I2.kIn, ?_⟩) hst hpl
  exact run_fnS (us := .ref a :: us) (vs := .ref a :: vs) (E := WE W) G hr hb (passAt tk σ) I2 (.cons rfl r) q2
theorem pe_methS0 {pl : Sem Bool} (he : PE X o ta) (c : Cls X.K C) (hm : Meth X.K C m f) (G : FnOk X.prog X.w X.K X.mg X.base (L2.CX X.prog X.w) k f fd ps sp) (hr : Room k X.A) (hb : Binds X.K fd ps []) (tk : Takes X W)
    (ht : eval (.Call (.Attribute o m apos) [] [] pos) X.env = (do
      let ov ← eval o X.env
      standAt apos.atName
      let (g, first) ← holding [ov] (getMethod ov m pl)
      callWith pos g first (backTo pos (starEach [] X.env)) (backToKw pos (keywordEach [] X.env)))) :
    PE X (.Call (.Attribute o m apos) [] [] pos) (tMethS C m sp W ta tNil) := by
  refine ⟨fun pins s σ H Q I z => ?_⟩
  refine PySem.W.methodCall_KW (pl := pl) (thn (he.run pins s σ H _ I z) fun u s1 ⟨y, H1, I1, rx, a, dx, fs, ex, ea, l, q⟩ => ?_) ht
  subst ex
  obtain rfl : u = Value.ref a := rx
  refine getmeth_ok I1 ea c hm l ?_
  exact PySem.W.callWith_K0 (first := [.ref a]) I1.kIn hm.kp (run_fnS (us := [.ref a]) (vs := [.ref a]) (E := WE W) G hr hb (passAt tk σ) I1 (.cons rfl .nil) q)
end

/-! ### apart -/
section
variable {K : PySem.W.Frag} {C : Cl} {ρ ρ' : List Addr} {H H' : Hp} {h : List O}
mutual
theorem rep_alone : ∀ {d : D} {v : V}, pureD d = true → Rep K C ρ H d v → Rep K C [] H d v
  | .non, _, _, r => by rw [Rep] at r ⊢; exact r
  | .bl _, _, _, r => by rw [Rep] at r ⊢; exact r
  | .int _, _, _, r => by rw [Rep] at r ⊢; exact r
  | .str _, _, _, r => by rw [Rep] at r ⊢; exact r
  | .tup ds, _, e, r => by
    rw [Rep] at r ⊢
    obtain ⟨p, vs, e1, t, z⟩ := r
    exact ⟨p, vs, e1, t.imp (fun q => ⟨q.1, by simp⟩) id, reps_alone (by rw [pureD] at e; exact e) z⟩
  | .lsF ds, _, e, _ => by rw [pureD] at e; cases e
  | .sale a b, _, _, r => by
    rw [Rep] at r ⊢
    obtain ⟨p, dx, e1, t, _⟩ := r
    exact ⟨p, dx, e1, t, by simp⟩
  | .obj i, _, e, _ => by rw [pureD] at e; cases e
  | .adr i, _, e, _ => by rw [pureD] at e; cases e
theorem reps_alone : ∀ {ds : List D} {vs : List V}, pureDs ds = true → Reps K C ρ H ds vs → Reps K C [] H ds vs
  | [], _, _, r => by rw [Reps] at r ⊢; exact r
  | d :: ds, _, e, r => by
    rw [Reps] at r ⊢
    obtain ⟨v, us, e1, a, b⟩ := r
    rw [pureDs] at e
    obtain ⟨h1, h2⟩ := Bool.and_eq_true_iff.mp e
    exact ⟨v, us, e1, rep_alone h1 a, reps_alone h2 b⟩
end
theorem frz_ok (R : RelH K C ρ H h) : ∀ (n : Nat) {d d' : D} {v : V}, frzA n h d = some d' → Rep K C ρ H d v → Rep K C [] H d' v := by
  intro n
  induction n with
  | zero => intro d d' v e _; cases e
  | succ n ih =>
    have ihs : ∀ {ds ds' : List D} {vs : List V}, optAll (ds.map (frzA n h)) = some ds' → Reps K C ρ H ds vs → Reps K C [] H ds' vs := by
      intro ds
      induction ds with
      | nil => intro ds' vs e r; rw [Reps] at r; subst r; cases e; exact Reps.nil
      | cons d ds ihd =>
        intro ds' vs e r
        rw [Reps] at r
        obtain ⟨v, us, rfl, a, b⟩ := r
        rw [List.map_cons] at e
        cases q : frzA n h d with
        | none => rw [q] at e; cases e
        | some d2 =>
          rw [q, optAll] at e
          split at e
          · rename_i l hl
            cases e
            exact Reps.cons (ih q a) (ihd hl b)
          · cases e
    intro d d' v e r
    cases d with
    | non => cases e; exact rep_non.mpr (rep_non.mp r)
    | bl b => cases e; exact rep_bl.mpr (rep_bl.mp r)
    | int b => cases e; exact rep_int.mpr (rep_int.mp r)
    | str b => cases e; exact rep_str.mpr (rep_str.mp r)
    | adr b => cases e
    | sale a b =>
      cases e
      obtain ⟨p, dx, e1, t, _⟩ := rep_sale.mp r
      exact rep_sale.mpr ⟨p, dx, e1, t, by simp⟩
    | tup ds =>
      obtain ⟨p, vs, e1, t, z⟩ := rep_tup.mp r
      rw [frzA] at e
      split at e
      · rename_i l hl
        cases e
        exact rep_tup.mpr ⟨p, vs, e1, t.imp (fun q => ⟨q.1, by simp⟩) id, ihs hl z⟩
      · cases e
    | lsF ds =>
      obtain ⟨p, vs, e1, t, z⟩ := rep_lsF.mp r
      rw [frzA] at e
      split at e
      · rename_i l hl
        cases e
        exact rep_lsF.mpr ⟨p, vs, e1, t.imp (fun q => ⟨q.1, by simp⟩) id, ihs hl z⟩
      · cases e
    | obj i =>
      rw [frzA] at e
      split at e
      · rename_i ds hds
        split at e
        · rename_i l hl
          cases e
          obtain ⟨a, vs, ha, rfl, hH, z⟩ := obj_lst R hds r
          exact rep_lsF.mpr ⟨a, vs, rfl, .inl ⟨.inl hH, by simp⟩, ihs hl z⟩
        · cases e
      · cases e
theorem frzs_ok (R : RelH K C ρ H h) : ∀ {ds ds' : List D} {vs : List V}, frzAs h ds = some ds' → Reps K C ρ H ds vs → Reps K C [] H ds' vs := by
  intro ds
  unfold frzAs
  induction ds with
  | nil => intro ds' vs e r; rw [Reps] at r; subst r; cases e; exact Reps.nil
  | cons d ds ihd =>
    intro ds' vs e r
    rw [Reps] at r
    obtain ⟨v, us, rfl, a, b⟩ := r
    rw [List.map_cons] at e
    cases q : frzA 4 h d with
    | none => rw [q] at e; cases e
    | some d2 =>
      rw [q, optAll] at e
      split at e
      · rename_i l hl
        cases e
        exact Reps.cons (frz_ok R 4 q a) (ihd hl b)
      · cases e
/-- what comes back from apart is nothing of ours -/
theorem notOurs (R : RelH K C ρ H h) {p : Addr} {u : HO} (hu : H p = some u) (n : ¬ Mine C u) : p ∉ ρ := fun hm => by
  obtain ⟨o, r⟩ := R.there hm
  obtain ⟨w, e, m⟩ := r.there
  rw [hu] at e; cases e
  exact n m
mutual
theorem rep_back (R : RelH K C ρ H h) : ∀ {d : D} {v : V}, pureD d = true → Rep K C ρ' H d v → Rep K C ρ H d v
  | .non, _, _, r => by rw [Rep] at r ⊢; exact r
  | .bl _, _, _, r => by rw [Rep] at r ⊢; exact r
  | .int _, _, _, r => by rw [Rep] at r ⊢; exact r
  | .str _, _, _, r => by rw [Rep] at r ⊢; exact r
  | .tup ds, _, e, r => by
    rw [Rep] at r ⊢
    obtain ⟨p, vs, e1, t, z⟩ := r
    refine ⟨p, vs, e1, t.imp (fun q => ⟨q.1, ?_⟩) id, reps_back R (by rw [pureD] at e; exact e) z⟩
    rcases q.1 with q | ⟨o, q⟩
    · exact notOurs R q (fun z => z)
    · exact notOurs R q (fun z => z)
  | .lsF ds, _, e, _ => by rw [pureD] at e; cases e
  | .sale a b, _, _, r => by
    rw [Rep] at r ⊢
    obtain ⟨p, dx, e1, t, _⟩ := r
    exact ⟨p, dx, e1, t, notOurs R t (fun z => z rfl)⟩
  | .obj i, _, e, _ => by rw [pureD] at e; cases e
  | .adr i, _, e, _ => by rw [pureD] at e; cases e
theorem reps_back (R : RelH K C ρ H h) : ∀ {ds : List D} {vs : List V}, pureDs ds = true → Reps K C ρ' H ds vs → Reps K C ρ H ds vs
  | [], _, _, r => by rw [Reps] at r ⊢; exact r
  | d :: ds, _, e, r => by
    rw [Reps] at r ⊢
    obtain ⟨v, us, e1, a, b⟩ := r
    rw [pureDs] at e
    obtain ⟨h1, h2⟩ := Bool.and_eq_true_iff.mp e
    exact ⟨v, us, e1, rep_back R h1 a, reps_back R h2 b⟩
end
/-- the work of one apart, seen from here -/
theorem apart_fr (R : RelH K C ρ H h) (f : Fr [] H ρ' H') : Fr ρ H ρ H' ∧ RelH K C ρ H' h := by
  have g : Fr ρ H ρ H' := ⟨fun b o e _ => f.keep b o e (by simp), f.free, ⟨[], by simp, by simp⟩, f.lock⟩
  refine ⟨g, R.mono g fun a ha => ?_⟩
  obtain ⟨o, r⟩ := R.there ha
  obtain ⟨u, e, _⟩ := r.there
  rw [e, f.keep a u e (by simp)]
theorem call_apart {o : Out D} {Q : VK} {Wh : Value → Option Addr → Hp → Prop} (R : RelH K C ρ H h) (p : Post K C (Rep K C) ρ H (apart o h) Q Wh) : Post K C (Rep K C) [] H o Q Wh := by
  unfold apart at p
  cases o with
  | stuck => exact p
  | ok d h1 =>
    dsimp only at p
    split at p
    · rename_i hp
      intro ρ1 H1 v f1 R1 r1
      obtain ⟨g, R'⟩ := apart_fr R f1
      exact p ρ H1 v g R' (rep_back R' hp r1)
    · exact stuck_no p
  | exc x h1 =>
    dsimp only at p
    split at p
    · intro ρ1 H1 c d f1 R1 r1
      obtain ⟨g, R'⟩ := apart_fr R f1
      exact p ρ H1 c d g R' r1
    · exact stuck_no p
end
end Mi

set_option Elab.async false
set_option linter.all false
set_option maxRecDepth 100000
set_option maxHeartbeats 2000000
/-! Mi7: the expressions do what their texts do here: the theorem. -/
namespace Mi
open PySem L2
section
variable {K : PySem.W.Frag} {C : Cl} {F : Fns} {W : WX} {ρ : List Addr} {H : Hp} {h : List O}
theorem ofO_post {α β : Type} {R : List Addr → Hp → α → β → Prop} {o : Option α} {Q : β → Hp → Prop} {Wh : Value → Option Addr → Hp → Prop} (p : Post K C R ρ H (ofO o h) Q Wh) : ∃ a, o = some a ∧ Post K C R ρ H (.ok a h) Q Wh := by
  cases o with
  | none => exact stuck_no p
  | some a => exact ⟨a, rfl, p⟩
theorem tT_plain {A : E} {σ : St} {Q : Bool → Hp → Prop} (z : tT K C F W A σ H Q) : tE K C F W A σ H fun x H' => ∃ k, TruV K x H' k ∧ Q k H' := by
  obtain ⟨ρ, h, en, R, RE, p⟩ := z
  refine ⟨ρ, h, en, R, RE, Post.step p fun d h1 ρ1 H1 v g1 R1 r1 p1 => ?_⟩
  obtain ⟨b, e, p2⟩ := ofO_post p1
  exact ⟨b, tru_rep R1 r1 e, p2.ok_ R1 rfl⟩
/-- a test, then one of two -/
theorem branch {γ δ : Type} {R' : List Addr → Hp → γ → δ → Prop} {Q' : δ → Hp → Prop} {Wh : Value → Option Addr → Hp → Prop} {Q2 : Bool → Hp → Prop} {c : E} {en : En} {f g : List O → Out γ}
    (z : Post K C R' ρ H ((evE F c en h).bind fun x h => match truI x h with
      | some true => f h
      | some false => g h
      | none => .stuck) Q' Wh)
    (k : ∀ b h1 ρ1 H1, Fr ρ H ρ1 H1 → RelH K C ρ1 H1 h1 → Post K C R' ρ1 H1 (if b = true then f h1 else g h1) Q' Wh → Q2 b H1) : Post K C REq ρ H (evT F c en h) Q2 Wh := by
  unfold evT
  cases hc : evE F c en h with
  | ok d h1 =>
    rw [hc] at z
    simp only [Out.bind_ok] at z ⊢
    cases ht : truI d h1 with
    | none => simp only [ht] at z; exact stuck_no z
    | some b =>
      simp only [ht] at z
      intro ρ1 H1 b' f1 R1 e
      subst e
      refine k b h1 ρ1 H1 f1 R1 ?_
      cases b with
      | true => rw [if_pos rfl]; exact Post.from_ f1 z
      | false => rw [if_neg Bool.false_ne_true]; exact Post.from_ f1 z
  | exc x h1 => rw [hc] at z; exact z
  | stuck => rw [hc] at z; exact stuck_no z
theorem pt_ifE {X : Cx} {c a b : Expr} {pos : Pos} {tc ta tb : TT} (hc : PT X c tc) (ha : PT X a ta) (hb : PT X b tb) : PT X (.IfExp c a b pos) (fun σ H Q => tc σ H fun k H1 => if k = true then ta σ H1 Q else tb σ H1 Q) := by
  refine ⟨fun pins s σ H Q I z => ?_⟩
  refine PyProof.Rows.isTrue_IfExp (thn (hc.run pins s σ H _ I z) fun d s1 ⟨H1, I1, q1⟩ => ?_)
  cases d with
  | true => exact ha.run pins s1 σ H1 Q I1 q1
  | false => exact hb.run pins s1 σ H1 Q I1 q1
end
theorem callR_or {X : Cx} {f : Value} {r1 r2 : List V → Hp → VK → Prop} (a : CallR X f r1) (b : CallR X f r2) : CallR X f (fun xs H Q => r1 xs H Q ∨ r2 xs H Q) := by
  intro pins s σ H xs us Q I r h
  rcases h with h | h
  · exact a pins s σ H xs us Q I r h
  · exact b pins s σ H xs us Q I r h
theorem call_intB {X : Cx} : CallR X (.type "int") (fun xs H Q => ((∃ i, xs = [.int i] ∧ Q (.int i) H) ∨ ∃ k, xs = [.bl k] ∧ Q (.int (if k then 1 else 0)) H) ∨ ∃ a n, xs = [.str a] ∧ PySem.intText? a = some n ∧ a.length ≤ 640 ∧ Q (.int n) H) := callR_or call_int1 call_int_str
theorem call_strB {X : Cx} : CallR X (.type "str") (fun xs H Q => (∃ i, xs = [.int i] ∧ i.natAbs.log2 < 1920 ∧ Q (.str (toString i)) H) ∨ ∃ a, xs = [.str a] ∧ Q (.str a) H) := callR_or call_str_int SkE.call_str_str

section
variable {T : Tab} {C : Cl} {F : Fns} {k : Nat} {sc : Scope} {N : List Str} {X : Cx} {W : WX}
theorem bf_pe {b : Bf} {e : Expr} {es : List Expr} {x : Str} {q pos : Pos} {A : E} {As : Es} (c : Ctx T C F k sc N X) (hx : x = bfN b) (hg : glB sc x = true) (h1 : notStar e = true) (h2 : noStars es = true)
    (hA : PE X e (tE X.K C F W A)) (hAs : PA X es (tAs X.K C F W As)) : PE X (.Call (.Name x q) (e :: es) [] pos) (tE X.K C F W (.bf b (.cons A As))) := by
  have pa : PA X (e :: es) (tAs X.K C F W (.cons A As)) := PA.weak (pa_cons hA hAs (star_of h1)) fun σ H Q => tAs_cons
  obtain ⟨g1, g2, g3⟩ := c.gl hg
  have gen : ∀ {r : List V → Hp → VK → Prop}, PE X (.Call (.Name x q) (e :: es) [] pos) (tCB r (tAs X.K C F W (.cons A As))) →
      (∀ ρ H h ds vs Q Wh, RelH X.K C ρ H h → Reps X.K C ρ H ds vs → Post X.K C (Rep X.K C) ρ H (bfI b ds h) Q Wh → r vs H Q) → PE X (.Call (.Name x q) (e :: es) [] pos) (tE X.K C F W (.bf b (.cons A As))) := fun pe hr =>
    PE.weak pe fun σ H Q ⟨ρ, h, en, R, RE, p⟩ => by
      rw [evE] at p
      exact ⟨ρ, h, en, R, RE, p.step fun ds h1 ρ1 H1 vs g1 R1 r1 p1 => hr ρ1 H1 h1 ds vs Q _ R1 r1 p1⟩
  subst hx
  have one : ∀ {ρ : List Addr} {H : Hp} {d : D} {vs : List V}, Reps X.K C ρ H [d] vs → ∃ v, vs = [v] ∧ Rep X.K C ρ H d v := fun {ρ H d vs} r => by
    rw [Reps] at r
    obtain ⟨v, us, rfl, a, z⟩ := r
    rw [Reps] at z; subst z
    exact ⟨v, rfl, a⟩
  cases b with
  | len =>
    refine gen (pe_callB call_len_seq g1 (c.kok.free _ (by decide +kernel)) (by decide +kernel) pa g3 g2 (star_of h1) (noStars_any h2)) fun ρ H h ds vs Q Wh R r p => ?_
    unfold bfI at p
    split at p <;> first | exact stuck_no p | skip
    case h_1 =>
      split at p <;> first | exact stuck_no p | skip
      rename_i l hl
      obtain ⟨v, rfl, rv⟩ := one r
      obtain ⟨a, us, rfl, ru, s⟩ := items_sq R rv hl
      refine ⟨a, us, rfl, s.imp (·.2) (·.2), ?_⟩
      rw [ru.length]
      exact int_end R p
    all_goals (rename_i hb; cases hb)
  | abs =>
    refine gen (pe_callB call_abs g1 (c.kok.free _ (by decide +kernel)) (by decide +kernel) pa g3 g2 (star_of h1) (noStars_any h2)) fun ρ H h ds vs Q Wh R r p => ?_
    unfold bfI at p
    split at p <;> first | exact stuck_no p | skip
    case h_2 =>
      obtain ⟨v, rfl, rv⟩ := one r
      cases rep_int.mp rv
      exact ⟨_, rfl, int_end R p⟩
    all_goals (rename_i hb; cases hb)
  | max =>
    refine gen (pe_callB (call_max2 c.calm) g1 (c.kok.free _ (by decide +kernel)) (by decide +kernel) pa g3 g2 (star_of h1) (noStars_any h2)) fun ρ H h ds vs Q Wh R r p => ?_
    unfold bfI at p
    split at p <;> first | exact stuck_no p | skip
    case h_3 =>
      rw [Reps] at r
      obtain ⟨v, us, rfl, ra, z⟩ := r
      obtain ⟨v2, rfl, rb⟩ := one z
      cases rep_int.mp ra
      cases rep_int.mp rb
      exact ⟨_, _, rfl, int_end R p⟩
    all_goals (rename_i hb; cases hb)
  | int =>
    refine gen (pe_callTy call_intB g1 (c.kok.free _ (by decide +kernel)) (by decide +kernel) pa g3 g2 (star_of h1) (noStars_any h2)) fun ρ H h ds vs Q Wh R r p => ?_
    unfold bfI at p
    split at p <;> first | exact stuck_no p | skip
    case h_4 =>
      obtain ⟨v, rfl, rv⟩ := one r
      cases rep_int.mp rv
      exact .inl (.inl ⟨_, rfl, int_end R p⟩)
    case h_5 =>
      obtain ⟨v, rfl, rv⟩ := one r
      cases rep_bl.mp rv
      exact .inl (.inr ⟨_, rfl, int_end R p⟩)
    case h_9 =>
      obtain ⟨v, rfl, rv⟩ := one r
      cases rep_str.mp rv
      split at p <;> first | exact stuck_no p | skip
      rename_i hs
      split at p <;> first | exact stuck_no p | skip
      rename_i hl
      exact .inr ⟨_, _, rfl, hs, hl, int_end R p⟩
    all_goals (rename_i hb; cases hb)
  | list =>
    refine gen (pe_callTy call_list_of g1 (c.kok.free _ (by decide +kernel)) (by decide +kernel) pa g3 g2 (star_of h1) (noStars_any h2)) fun ρ H h ds vs Q Wh R r p => ?_
    unfold bfI at p
    split at p <;> first | exact stuck_no p | skip
    case h_6 =>
      split at p <;> first | exact stuck_no p | skip
      rename_i l hl
      obtain ⟨v, rfl, rv⟩ := one r
      obtain ⟨a, us, rfl, ru, s⟩ := items_sq R rv hl
      exact ⟨a, us, rfl, s.imp (·.2) (·.2), new_lst R ru p⟩
    all_goals (rename_i hb; cases hb)
  | tuple =>
    refine gen (pe_callTy call_tuple_of g1 (c.kok.free _ (by decide +kernel)) (by decide +kernel) pa g3 g2 (star_of h1) (noStars_any h2)) fun ρ H h ds vs Q Wh R r p => ?_
    unfold bfI at p
    split at p <;> first | exact stuck_no p | skip
    case h_7 =>
      split at p <;> first | exact stuck_no p | skip
      rename_i l hl
      obtain ⟨v, rfl, rv⟩ := one r
      obtain ⟨a, us, _, rfl, hH, ru⟩ := obj_lst R hl rv
      exact ⟨a, us, rfl, .inl ⟨SqL.of hH, new_tup R ru p⟩⟩
    all_goals (rename_i hb; cases hb)
  | str =>
    refine gen (pe_callTy call_strB g1 (c.kok.free _ (by decide +kernel)) (by decide +kernel) pa g3 g2 (star_of h1) (noStars_any h2)) fun ρ H h ds vs Q Wh R r p => ?_
    unfold bfI at p
    split at p <;> first | exact stuck_no p | skip
    case h_8 =>
      obtain ⟨v, rfl, rv⟩ := one r
      cases rep_int.mp rv
      split at p <;> first | exact stuck_no p | skip
      rename_i hi
      exact .inl ⟨_, rfl, Nat.lt_trans (PySem.Flt.log2_lt_of (k := 63) (by decide) hi) (by decide), p.ok_ R (rep_str.mpr rfl)⟩
    case h_10 =>
      obtain ⟨v, rfl, rv⟩ := one r
      cases rep_str.mp rv
      exact .inr ⟨_, rfl, p.ok_ R (rep_str.mpr rfl)⟩
    all_goals (rename_i hb; cases hb)

def tyN0 : Ty → String
  | .str => "str"
  | .int => "int"
  | .bool => "bool"
  | .tuple => "tuple"
  | .sale => ""
def tyV0 (tv nm : String) : Bool := tv == nm || (tv == "bool" && nm == "int")
def tyCv (C : Cl) : Ty → V → Prop
  | .sale, cv => cv = .ref C.sale
  | .str, cv => cv = .ty "str"
  | .int, cv => cv = .ty "int"
  | .bool, cv => cv = .ty "bool"
  | .tuple, cv => cv = .ty "tuple"
/-- isinstance(e, T) -/
theorem tyOf_rep {d : D} {v : V} {ρ : List Addr} {H : Hp} {h : List O} {K : PySem.W.Frag} {t : Ty} {b : Bool} (S : SaleK K C) (R : RelH K C ρ H h) (r : Rep K C ρ H d v) (e : tyI t d h = some b) :
    ∃ tv cv u, TyX K H v tv ∧ ClsV cv u ∧ PySem.W.kitOne K tv u = some b ∧ tyCv C t cv := by
  have tt : ∀ {p : Addr} {vs : List V}, TupS K ρ H p vs → TyX K H (.ref p) (.type "tuple") := fun {p vs} z => by
    rcases z with ⟨z | ⟨o, z⟩, _⟩ | z | ⟨o, its, n, hk, hc, _⟩
    · exact .base (.tup z)
    · exact .fTuple z
    · exact (noRd z).elim
    · exact .kTuple hk hc
  cases d with
  | non =>
    cases rep_non.mp r
    cases e
    cases t with
    | sale => exact ⟨_, _, _, .base .non, .own C.sale, S.i2 _ (by decide), rfl⟩
    | _ => exact ⟨_, _, _, .base .non, .ty _, kit_ty (by decide +kernel), rfl⟩
  | bl c =>
    cases rep_bl.mp r
    cases t with
    | sale => cases e; exact ⟨_, _, _, .base (.bl _), .own C.sale, S.i2 _ (by decide), rfl⟩
    | str => cases e; exact ⟨_, _, _, .base (.bl _), .ty _, kit_ty (by decide +kernel), rfl⟩
    | int => cases e; exact ⟨_, _, _, .base (.bl _), .ty _, kit_ty (by decide +kernel), rfl⟩
    | bool => cases e; exact ⟨_, _, _, .base (.bl _), .ty _, kit_ty (by decide +kernel), rfl⟩
    | tuple => cases e; exact ⟨_, _, _, .base (.bl _), .ty _, kit_ty (by decide +kernel), rfl⟩
  | int c =>
    cases rep_int.mp r
    cases t with
    | sale => cases e; exact ⟨_, _, _, .base (.int _), .own C.sale, S.i2 _ (by decide), rfl⟩
    | str => cases e; exact ⟨_, _, _, .base (.int _), .ty _, kit_ty (by decide +kernel), rfl⟩
    | int => cases e; exact ⟨_, _, _, .base (.int _), .ty _, kit_ty (by decide +kernel), rfl⟩
    | bool => cases e; exact ⟨_, _, _, .base (.int _), .ty _, kit_ty (by decide +kernel), rfl⟩
    | tuple => cases e; exact ⟨_, _, _, .base (.int _), .ty _, kit_ty (by decide +kernel), rfl⟩
  | str c =>
    cases rep_str.mp r
    cases t with
    | sale => cases e; exact ⟨_, _, _, .base (.str _), .own C.sale, S.i2 _ (by decide), rfl⟩
    | str => cases e; exact ⟨_, _, _, .base (.str _), .ty _, kit_ty (by decide +kernel), rfl⟩
    | int => cases e; exact ⟨_, _, _, .base (.str _), .ty _, kit_ty (by decide +kernel), rfl⟩
    | bool => cases e; exact ⟨_, _, _, .base (.str _), .ty _, kit_ty (by decide +kernel), rfl⟩
    | tuple => cases e; exact ⟨_, _, _, .base (.str _), .ty _, kit_ty (by decide +kernel), rfl⟩
  | tup ds =>
    obtain ⟨p, vs, rfl, z, _⟩ := rep_tup.mp r
    cases t with
    | sale => cases e; exact ⟨_, _, _, tt z, .own C.sale, S.i2 _ (by decide), rfl⟩
    | str => cases e; exact ⟨_, _, _, tt z, .ty _, kit_ty (by decide +kernel), rfl⟩
    | int => cases e; exact ⟨_, _, _, tt z, .ty _, kit_ty (by decide +kernel), rfl⟩
    | bool => cases e; exact ⟨_, _, _, tt z, .ty _, kit_ty (by decide +kernel), rfl⟩
    | tuple => cases e; exact ⟨_, _, _, tt z, .ty _, kit_ty (by decide +kernel), rfl⟩
  | lsF ds =>
    obtain ⟨p, vs, rfl, z, _⟩ := rep_lsF.mp r
    have ll : TyX K H (.ref p) (.type "list") := by
      rcases z with ⟨z | ⟨o, z⟩, _⟩ | z | ⟨o, its, n, hk, hc, _⟩
      · exact .base (.lst z)
      · exact .base (.frz z)
      · exact (noRd z).elim
      · exact .kList hk hc
    cases t with
    | sale => cases e; exact ⟨_, _, _, ll, .own C.sale, S.i2 _ (by decide), rfl⟩
    | str => cases e; exact ⟨_, _, _, ll, .ty _, kit_ty (by decide +kernel), rfl⟩
    | int => cases e; exact ⟨_, _, _, ll, .ty _, kit_ty (by decide +kernel), rfl⟩
    | bool => cases e; exact ⟨_, _, _, ll, .ty _, kit_ty (by decide +kernel), rfl⟩
    | tuple => cases e; exact ⟨_, _, _, ll, .ty _, kit_ty (by decide +kernel), rfl⟩
  | adr ds => cases e
  | sale a c =>
    obtain ⟨p, dx, rfl, z, _⟩ := rep_sale.mp r
    have ty : TyX K H (.ref p) (.ref C.sale) := .base (.ins z S.cl S.a1 S.a2 S.a3 S.a4)
    cases t with
    | sale => cases e; exact ⟨_, _, _, ty, .own C.sale, S.i1, rfl⟩
    | str => cases e; exact ⟨_, _, _, ty, .ty _, S.i0 _ (by decide), rfl⟩
    | int => cases e; exact ⟨_, _, _, ty, .ty _, S.i0 _ (by decide), rfl⟩
    | bool => cases e; exact ⟨_, _, _, ty, .ty _, S.i0 _ (by decide), rfl⟩
    | tuple => cases e; exact ⟨_, _, _, ty, .ty _, S.i0 _ (by decide), rfl⟩
  | obj i =>
    cases q : h[i]? with
    | none => simp only [tyI, q] at e; cases e
    | some o =>
      simp only [tyI, q] at e
      cases o with
      | lst ds =>
        cases e
        obtain ⟨a, vs, _, rfl, hH, _⟩ := obj_lst R q r
        cases t with
        | sale => exact ⟨_, _, _, .base (.lst hH), .own C.sale, S.i2 _ (by decide), rfl⟩
        | _ => exact ⟨_, _, _, .base (.lst hH), .ty _, kit_ty (by decide +kernel), rfl⟩
      | _ => cases e
theorem tyOf_rep0 {d : D} {v : V} {ρ : List Addr} {H : Hp} {h : List O} {K : PySem.W.Frag} {t : Ty} {b : Bool} (ht : t ≠ .sale) (R : RelH K C ρ H h) (r : Rep K C ρ H d v) (e : tyS false t d h = some b) :
    ∃ tv cv u, TyX K H v tv ∧ ClsV cv u ∧ PySem.W.kitOne K tv u = some b ∧ tyCv C t cv := by
  have go : ∀ {tv : String}, TyX K H v (.type tv) → (∀ nm, nm = "str" ∨ nm = "int" ∨ nm = "bool" ∨ nm = "tuple" → PySem.W.kitOne K (.type tv) (.type nm) = some (tyV0 tv nm)) → tyV0 tv (tyN0 t) = b → ∃ tv cv u, TyX K H v tv ∧ ClsV cv u ∧ PySem.W.kitOne K tv u = some b ∧ tyCv C t cv := fun {tv} hx hk hb => by
    subst hb
    cases t with
    | sale => exact absurd rfl ht
    | str => exact ⟨_, _, _, hx, .ty _, hk _ (.inl rfl), rfl⟩
    | int => exact ⟨_, _, _, hx, .ty _, hk _ (.inr (.inl rfl)), rfl⟩
    | bool => exact ⟨_, _, _, hx, .ty _, hk _ (.inr (.inr (.inl rfl))), rfl⟩
    | tuple => exact ⟨_, _, _, hx, .ty _, hk _ (.inr (.inr (.inr rfl))), rfl⟩
  have kk : ∀ {tv : String}, (tv = "NoneType" ∨ tv = "bool" ∨ tv = "int" ∨ tv = "str" ∨ tv = "tuple" ∨ tv = "list") → ∀ nm, nm = "str" ∨ nm = "int" ∨ nm = "bool" ∨ nm = "tuple" → PySem.W.kitOne K (.type tv) (.type nm) = some (tyV0 tv nm) := fun {tv} h1 nm h2 => by
    rcases h1 with rfl | rfl | rfl | rfl | rfl | rfl <;> rcases h2 with rfl | rfl | rfl | rfl <;> exact kit_ty (by decide +kernel)
  have tt : ∀ {p : Addr} {vs : List V}, TupS K ρ H p vs → TyX K H (.ref p) (.type "tuple") := fun {p vs} z => by
    rcases z with ⟨z | ⟨o, z⟩, _⟩ | z | ⟨o, its, n, hk, hc, _⟩
    · exact .base (.tup z)
    · exact .fTuple z
    · exact (noRd z).elim
    · exact .kTuple hk hc
  have ll : ∀ {p : Addr} {vs : List V}, LstS K ρ H p vs → TyX K H (.ref p) (.type "list") := fun {p vs} z => by
    rcases z with ⟨z | ⟨o, z⟩, _⟩ | z | ⟨o, its, n, hk, hc, _⟩
    · exact .base (.lst z)
    · exact .base (.frz z)
    · exact (noRd z).elim
    · exact .kList hk hc
  cases d with
  | non => cases rep_non.mp r; exact go (.base .non) (kk (by simp)) (by cases t <;> first | exact absurd rfl ht | (cases e; decide +kernel))
  | bl c => cases rep_bl.mp r; exact go (.base (.bl _)) (kk (by simp)) (by cases t <;> first | exact absurd rfl ht | (cases e; decide +kernel))
  | int c => cases rep_int.mp r; exact go (.base (.int _)) (kk (by simp)) (by cases t <;> first | exact absurd rfl ht | (cases e; decide +kernel))
  | str c => cases rep_str.mp r; exact go (.base (.str _)) (kk (by simp)) (by cases t <;> first | exact absurd rfl ht | (cases e; decide +kernel))
  | tup ds => obtain ⟨p, vs, rfl, z, _⟩ := rep_tup.mp r; exact go (tt z) (kk (by simp)) (by cases t <;> first | exact absurd rfl ht | (cases e; decide +kernel))
  | lsF ds => obtain ⟨p, vs, rfl, z, _⟩ := rep_lsF.mp r; exact go (ll z) (kk (by simp)) (by cases t <;> first | exact absurd rfl ht | (cases e; decide +kernel))
  | adr ds => cases t <;> cases e
  | sale a c => cases t <;> cases e
  | obj i =>
    cases q : h[i]? with
    | none => cases t <;> first | exact absurd rfl ht | (simp only [tyS, tyI, q] at e; cases e)
    | some o =>
      cases o with
      | lst ds =>
        obtain ⟨a, vs, _, rfl, hH, _⟩ := obj_lst R q r
        exact go (.base (.lst hH)) (kk (by simp)) (by cases t <;> first | exact absurd rfl ht | (simp only [tyS, tyI, q] at e; cases e; decide +kernel))
      | _ => cases t <;> first | exact absurd rfl ht | (simp only [tyS, tyI, q] at e; cases e)
theorem isi_pe {t : Ty} {e : Expr} {y : Str} {p q pos : Pos} {A : E} (c : Ctx T C F k sc N X) (hg : glB sc "isinstance" = true) (h1 : notStar e = true) (hy : y = tyN t) (hgy : glB sc y = true) (hs : (T.sl || decide (t ≠ .sale)) = true)
    (hA : PE X e (tE X.K C F W A)) : PE X (.Call (.Name "isinstance" q) [e, .Name y p] [] pos) (tE X.K C F W (.isi A t)) := by
  obtain ⟨g1, g2, g3⟩ := c.gl hg
  obtain ⟨y1, y2, y3⟩ := c.gl hgy
  have cls : ∃ cv : V, PE X (.Name y p) (tC cv) ∧ tyCv C t cv := by
    subst hy
    cases t with
    | sale => exact ⟨_, pe_glob (v := .ref C.sale) y1 (c.kok.saleG (by simpa using hs)) rfl y2, rfl⟩
    | str => exact ⟨_, pe_bltn (v := .ty "str") y1 (c.kok.free _ (by decide +kernel)) (by decide +kernel) rfl y3 y2, rfl⟩
    | int => exact ⟨_, pe_bltn (v := .ty "int") y1 (c.kok.free _ (by decide +kernel)) (by decide +kernel) rfl y3 y2, rfl⟩
    | bool => exact ⟨_, pe_bltn (v := .ty "bool") y1 (c.kok.free _ (by decide +kernel)) (by decide +kernel) rfl y3 y2, rfl⟩
    | tuple => exact ⟨_, pe_bltn (v := .ty "tuple") y1 (c.kok.free _ (by decide +kernel)) (by decide +kernel) rfl y3 y2, rfl⟩
  obtain ⟨cv, hc, ev⟩ := cls
  refine PE.weak (pe_callB call_isi g1 (c.kok.free _ (by decide +kernel)) (by decide +kernel) (pa_cons hA (pa_cons hc pa_nil) (star_of h1)) g3 g2 (star_of h1)) fun σ H Q ⟨ρ, h, en, R, RE, z⟩ => ?_
  rw [evE] at z
  refine ⟨ρ, h, en, R, RE, z.step fun d h1 ρ1 H1 v f1 R1 r1 z1 => ?_⟩
  obtain ⟨b, e1, z2⟩ := ofO_post (R := REq) (Post.step (R := REq) (Q := fun _ _ => True) z1 fun _ _ _ _ _ _ _ _ _ => trivial)
  have e2 := e1
  rw [e1] at z1
  have ex : ∃ tv cv u, TyX X.K H1 v tv ∧ ClsV cv u ∧ PySem.W.kitOne X.K tv u = some b ∧ tyCv C t cv := by
    rw [c.hsl] at e2
    by_cases hsl : T.sl = true
    · rw [hsl] at e2; exact tyOf_rep (c.kok.sale hsl) R1 r1 e2
    · have h0 : T.sl = false := by simpa using hsl
      rw [h0] at e2
      exact tyOf_rep0 (by rw [h0] at hs; simpa using hs) R1 r1 e2
  obtain ⟨tv, cv', u, h3, h4, h5, h6⟩ := ex
  have ec : cv' = cv := by
    cases t <;> exact h6.trans ev.symm
  subst ec
  exact ⟨v, cv', tv, u, b, rfl, h4, h3, h5, bl_end R1 z1⟩
end
end Mi

set_option Elab.async false
set_option linter.all false
set_option maxRecDepth 100000
set_option maxHeartbeats 2000000
/-! Mi7b: instances are made. -/
namespace Mi
open PySem L2
section
variable {X : Cx} {CX : CXT} {k : Nat} {f Ca : Addr} {fd : FuncData} {ps : List Str} {sp : Sp} {E : St → XK} {x : Str} {p pos : Pos} {e : Expr} {es : List Expr} {t : TA}
/-- a class is called; errors are wished for at the slots -/
theorem run_makeS {pins : List (Addr × Obj)} {σ : St} {H : Hp} {s : Shared} {Q : VK} {us : List Value} {vs : List V} (M : Mk X.K Ca f) (G : FnOk X.prog X.w X.K X.mg X.base CX k f fd ps sp) (hr : Room (k + 1) X.A) (hb : Binds X.K fd ps []) (hx : PassesAt CX X σ (E σ)) (I : Inv X pins σ H s) (r : Vals vs us)
    (h : ∀ x dx, H x = none → H dx = none → dx ≠ x → sp (.ref x :: vs) (upd (upd H dx (.own x)) x (.ins Ca dx [])) (fun v H2 => v = .non ∧ Q (.ref x) H2) (E σ)) : wpAny (model X.prog X.w) X.A (call (.ref Ca) us) (EP X pins σ Q) X.xe s := by
  have want := h (s.heap.objs.size + 1) s.heap.objs.size (I.hok.fresh (Nat.le_succ _)) (I.hok.fresh (Nat.le_refl _)) (Nat.ne_of_lt (Nat.lt_succ_self _))
  have J := Inv.made (C := Ca) I
  have rr : Vals (V.ref (s.heap.objs.size + 1) :: vs) (Value.ref (s.heap.objs.size + 1) :: us) := .cons rfl r
  have hl : (Value.ref (s.heap.objs.size + 1) :: us).length = ps.length := by rw [← rr.length]; exact G.len _ _ _ _ want
  have b := hb _ (Value.ref (s.heap.objs.size + 1) :: us) J.kIn (by rw [List.append_nil]; exact hl)
  rw [List.append_nil] at b
  refine wpAny_call (make_map (f := f) I.kIn M.makes M.init (beq_iff_eq.mp M.fn) (codeAny_mono (G.run _ X.stack _ _ ⟨Value.ref (s.heap.objs.size + 1) :: us, []⟩ _ _ _ (E σ) (hr.make Ca us []) (J.env0.make Ca us []) b rr want) fun r s' z => ?_))
  match r, z with
  | .error er, z => exact hx pins _ _ er s' J z
  | .ok (.ret u), z =>
    obtain ⟨v, H', I3, rv, ev, q3⟩ := J.after z
    subst ev
    exact ⟨rv, ⟨V.ref (s.heap.objs.size + 1), H', I3, rfl, q3⟩⟩
  | .ok .next, z => exact False.elim z
  | .ok .brk, z => exact False.elim z
  | .ok .cont, z => exact False.elim z
def tMakeS (Ca : Addr) (sp : Sp) (W : WX) (t : TA) : TE := fun σ H Q => t σ H fun vs H1 => ∀ x dx, H1 x = none → H1 dx = none → dx ≠ x → sp (.ref x :: vs) (upd (upd H1 dx (.own x)) x (.ins Ca dx [])) (fun v H2 => v = .non ∧ Q (.ref x) H2) (WE W σ)
theorem pe_makeS {W : WX} (M : Mk X.K Ca f) (G : FnOk X.prog X.w X.K X.mg X.base (L2.CX X.prog X.w) k f fd ps sp) (hr : Room (k + 1) X.A) (hg : Gl X x) (hm : X.mg x = some (.ref Ca)) (hb : Binds X.K fd ps []) (tk : Takes X W) (ha : PA X (e :: es) t) (hdb : (x == ("__debug__" : Str)) = false)
    (he : starEach (e :: es) X.env = (false, eval e X.env) :: starEach es X.env) (hpl : (backTo pos (starEach es X.env)).any (·.1) = false) : PE X (.Call (.Name x p) (e :: es) [] pos) (tMakeS Ca sp W t) := by
  refine ⟨fun pins s σ H Q I h => ?_⟩
  refine wpAny_Call_Name_kw (ld_glob I hg hm ?_ hdb)
  refine PySem.W.callWith_K (h₀ := X.base) I.ok.mod.kin M.kp (thn (ha.run pos pins s σ H _ I h) fun us s1 ⟨vs, H1, I1, r, q⟩ => ⟨I1.kIn, ?_⟩) he hpl
  exact run_makeS (E := WE W) M G hr hb (passAt tk σ) I1 r q
theorem pe_makeS0 {W : WX} (M : Mk X.K Ca f) (G : FnOk X.prog X.w X.K X.mg X.base (L2.CX X.prog X.w) k f fd ps sp) (hr : Room (k + 1) X.A) (hg : Gl X x) (hm : X.mg x = some (.ref Ca)) (hb : Binds X.K fd ps []) (tk : Takes X W) (hdb : (x == ("__debug__" : Str)) = false) :
    PE X (.Call (.Name x p) [] [] pos) (tMakeS Ca sp W tNil) := by
  refine ⟨fun pins s σ H Q I h => ?_⟩
  refine wpAny_Call_Name_kw (ld_glob I hg hm ?_ hdb)
  exact PySem.W.callWith_K0 I.kIn M.kp (run_makeS (us := []) (E := WE W) M G hr hb (passAt tk σ) I .nil h)
end
section
variable {T : Tab} {C : Cl} {F : Fns} {k : Nat} {sc : Scope} {N : List Str} {X : Cx} {W : WX}
/-- a new object of a class of ours: __init__ runs on it -/
theorem mk_end {ρ : List Addr} {H : Hp} {h : List O} {ds : List D} {vs : List V} {y f : Nat} {Q : VK} {Wh : Value → Option Addr → Hp → Prop} (R : RelH X.K C ρ H h) (r : Reps X.K C ρ H ds vs)
    (z : Post X.K C (Rep X.K C) ρ H ((F.fn f (.obj h.length :: ds) (h ++ [.ins y []])).bind fun r h2 => if isNon r then .ok (.obj h.length) h2 else .stuck) Q Wh) (a dx : Addr) (ha : H a = none) (hd : H dx = none) (hne : dx ≠ a) :
    spI X.K C F f (.ref a :: vs) (upd (upd H dx (.own a)) a (.ins (C.at_ y) dx [])) (fun v H2 => v = .non ∧ Q (.ref a) H2) Wh := by
  have ha2 : (upd H dx (.own a)) a = none := by rw [upd_ne (Ne.symm hne)]; exact ha
  have f1 : Fr ρ H ρ (upd H dx (.own a)) := Fr.new hd
  have f2 : Fr ρ (upd H dx (.own a)) (ρ ++ [a]) (upd (upd H dx (.own a)) a (.ins (C.at_ y) dx [])) := Fr.newO ha2
  have R2 := (R.new (o := .own a) hd).newO (o := .ins y []) ha2 (u := .ins (C.at_ y) dx []) ⟨dx, [], upd_same, .nil⟩
  have hlen : ρ.length = h.length := R.len
  refine ⟨ρ ++ [a], h ++ [.ins y []], .obj h.length :: ds, R2, Reps.cons (rep_obj.mpr ⟨a, by rw [← hlen]; simp, rfl⟩) ((r.mono f1).mono f2), ?_⟩
  have fa := f1.trans f2
  cases ho : F.fn f (.obj h.length :: ds) (h ++ [.ins y []]) with
  | stuck => rw [ho] at z; exact z
  | exc e h2 => rw [ho] at z; exact fun ρ' H' cls dd g R' rx => z ρ' H' cls dd (fa.trans g) R' rx
  | ok d h2 =>
    rw [ho] at z
    intro ρ' H' v g R' rv
    dsimp only [Out.bind] at z
    split at z
    · rename_i hn
      have hv : v = .non := by
        cases d with
        | non => exact rep_non.mp rv
        | _ => cases hn
      refine ⟨hv, z ρ' H' (.ref a) (fa.trans g) R' (rep_obj.mpr ⟨a, ?_, rfl⟩)⟩
      obtain ⟨new, e1, _⟩ := g.ext
      rw [e1, List.append_assoc, List.getElem?_append_right (by omega), hlen]
      simp
    · exact stuck_no z
theorem kvs_no {K : PySem.W.Frag} {ρ : List Addr} {H : Hp} {f : Str} {fs : List (Str × D)} {gs : List (Str × V)} (kv : KVs K C ρ H fs gs) (e : (fs.lookup f).isNone = true) : gs.lookup f = none := by
  induction kv with
  | nil => rfl
  | @cons p q l m pq _ ih =>
    obtain ⟨g, d⟩ := p
    obtain ⟨g', v⟩ := q
    obtain ⟨rfl, rv⟩ := pq
    simp only [List.lookup] at e ⊢
    cases hb : (f == g) with
    | true => rw [hb] at e; cases e
    | false => rw [hb] at e; exact ih e
theorem noStars_all : ∀ {es : List Expr} {env : Env} {pos : Pos}, noStars es = true → (backTo pos (starEach es env)).all (fun x => !x.1) = true
  | [], _, _, _ => rfl
  | e :: es, env, pos, h => by
    obtain ⟨h1, h2⟩ := Bool.and_eq_true_iff.mp (show (notStar e && noStars es) = true from h)
    rw [star_of h1]
    have := noStars_all (env := env) (pos := pos) h2
    unfold backTo at this ⊢
    simpa using this
theorem meth_eq {o : Expr} {m : Str} {ap pos : Pos} {es : List Expr} {env : Env} (h1 : notSuper o = true) (hl : (Pos.endLine ap == Pos.line pos) = true) (hs : noStars es = true) (hn : es.length < 29) : eval (.Call (.Attribute o m ap) es [] pos) env = (do
      let ov ← eval o env
      standAt ap.atName
      let (g, first) ← holding [ov] (getMethod ov m (do return (← importBound o env).getD true))
      callWith pos g first (backTo pos (starEach es env)) (backToKw pos (keywordEach [] env))) := by
  have hf : methodCallForm (es.length + ([] : List Keyword).length) (backTo pos (starEach es env)) (backToKw pos (keywordEach [] env)) = true := by
    unfold methodCallForm
    rw [noStars_all hs]
    have e : backToKw pos (keywordEach [] env) = [] := rfl
    rw [e]
    simp; omega
  rw [eval, base_of h1]
  unfold methodCall methodCallPos calleeOf
  simp only [hf, hl, Bool.or_true, if_true, pure_bind]
/-- o.m(..) of an object of ours -/
theorem meth_conv {A : E} {Bs : Es} {y f : Nat} {m : Str} {σ : St} {H : Hp} {Q : VK} {t : TA} (ht : ∀ σ H Q, tAs X.K C F W Bs σ H Q → t σ H Q) (z : tE X.K C F W (.meth y m f A Bs) σ H Q) : tMethS (C.at_ y) m (spI X.K C F f) W (tE X.K C F W A) t σ H Q := by
  obtain ⟨ρ, h, en, R, RE, z⟩ := z
  rw [evE] at z
  refine ⟨ρ, h, en, R, RE, z.step fun d h1 ρ1 H1 v f1 R1 r1 z1 => ?_⟩
  cases d with
  | obj i =>
    cases q : h1[i]? with
    | none => simp only [q] at z1; exact stuck_no z1
    | some o =>
      cases o with
      | ins y' fs =>
        simp only [q] at z1
        split at z1
        · rename_i hy
          obtain ⟨rfl, hm⟩ := hy
          obtain ⟨a, ha, rfl⟩ := rep_obj.mp r1
          obtain ⟨dx, gs, hH, kv⟩ := R1.at_ i a _ ha q
          refine ⟨a, dx, gs, rfl, hH, kvs_no kv hm, ht _ _ _ ⟨ρ1, h1, en, R1, RE.mono f1, z1.step fun ds h2 ρ2 H2 vs f2 R2 r2 z2 => ?_⟩⟩
          exact ⟨ρ2, h2, .obj i :: ds, R2, Reps.cons (r1.mono f2) r2, z2⟩
        · exact stuck_no z1
      | _ => simp only [q] at z1; exact stuck_no z1
  | _ => exact stuck_no z1
end
end Mi

set_option Elab.async false
set_option linter.all false
set_option maxRecDepth 100000
set_option maxHeartbeats 2000000
/-! Mi7c: targets; comprehensions. -/
namespace Mi
open PySem L2
section
variable {K : PySem.W.Frag} {C : Cl} {ρ : List Addr} {H : Hp}
theorem setAll_ok {N : List Str} : ∀ {is : List Nat} {ds : List D} {en en' : En} {vs : List V} {σ : St}, RelE K C ρ H σ en → Reps K C ρ H ds vs → setAll en is ds = some en' → vs.length = is.length ∧ RelE K C ρ H ((is.zip vs).foldl (fun s p => s.set p.1 (some p.2)) σ) en'
  | [], [], _, _, _, _, RE, r, e => by
    rw [Reps] at r; subst r
    cases e
    exact ⟨rfl, RE⟩
  | [], _ :: _, _, _, _, _, _, _, e => by cases e
  | _ :: _, [], _, _, _, _, _, _, e => by cases e
  | i :: is, d :: ds, en, en', _, σ, RE, r, e => by
    rw [Reps] at r
    obtain ⟨v, us, rfl, a, b⟩ := r
    obtain ⟨l, h⟩ := setAll_ok (N := N) (RE.set i a) b (show setAll (en.set i (some d)) is ds = some en' from e)
    exact ⟨by simp [l], h⟩
end
def gNames (is : List Nat) : TGs := fun vs σ H Q => vs.length = is.length ∧ Q ((is.zip vs).foldl (fun s p => s.set p.1 (some p.2)) σ) H
/-- a loop's or an assignment's target, by what is stored -/
def gT (K : PySem.W.Frag) (is : List Nat) : TG := fun v σ H Q => match is with
  | [i] => Q (σ.set i (some v)) H
  | is => gTup K is.length (gNames is) v σ H Q
section
theorem setT_ok {K : PySem.W.Frag} {ρ : List Addr} {H : Hp} {σ : St} {en en' : En} {is : List Nat} {d : D} {v : V} {Q : St → Hp → Prop} (RE : RelE K C ρ H σ en) (r : Rep K C ρ H d v) (e : setT is en d = some en')
    (q : ∀ σ', RelE K C ρ H σ' en' → Q σ' H) : gT K is v σ H Q := by
  unfold setT at e
  unfold gT
  split at e
  · cases e
    exact q _ (RE.set _ r)
  · rename_i hne
    split at e
    · obtain ⟨p, vs, rfl, t, z⟩ := rep_tup.mp r
      obtain ⟨l, z2⟩ := setAll_ok (N := []) RE z e
      first
        | exact ⟨p, vs, rfl, t.sq, l, l, q _ z2⟩
        | (split
           · exact absurd rfl (hne _)
           · exact ⟨p, vs, rfl, t.sq, l, l, q _ z2⟩)
    · cases e
end
section
variable {X : Cx} {tg : Expr}
/-- a list or a tuple, walked -/
def iSeq (K : PySem.W.Frag) (tl : TE) : TI := fun σ H R => tl σ H fun x H1 => ∃ a, x = .ref a ∧ (((∃ xs, SqL K H1 a xs) ∧ R (Itl K a) H1) ∨ ((∃ xs, SqT K H1 a xs) ∧ R (Itt K a) H1))
theorem pi_seq {l : Expr} {tl : TE} (hl : PE X l tl) : PI X tg l (iSeq X.K tl) := by
  refine ⟨fun pins s σ H R I h => ?_⟩
  refine thn (hl.run pins s σ H _ I h) fun v s1 ⟨x, H1, I1, r1, a, e, q1⟩ => ?_
  subst e
  cases r1
  have new : ∀ {o : Obj}, FpOk X pins H1 s1.heap.objs.size ∧ Inv X pins σ H1 { s1 with heap := s1.heap.push o } := fun {o} =>
    ⟨I1.fpOk (Nat.le_refl _) (I1.hok.fresh (Nat.le_refl _)), I1.kept (t' := s1.toks) fun b o e => Heap.get?_push_of_some _ e⟩
  rcases q1 with ⟨⟨xs, hq⟩, q⟩ | ⟨⟨xs, hq⟩, q⟩
  · obtain ⟨its, rv, p, hz⟩ := I1.list hq
    refine wpAny_pyIter_list p.isList ⟨s1.heap.objs.size, [s1.heap.objs.size], _, _, H1, rfl, new.2, turn_list a _, ⟨_, Heap.get?_push_size _ rfl, rfl, rfl⟩, fun b hb => ?_, q⟩
    obtain rfl : b = s1.heap.objs.size := by simpa using hb
    exact (new (o := { cls := .none, data := .fields #[] })).1
  · obtain ⟨its, rv, p, hz⟩ := I1.tuple hq
    refine wpAny_pyIter_tuple (show s1.heap.IsTuple a its.toArray from p) ⟨s1.heap.objs.size, [s1.heap.objs.size], _, _, H1, rfl, new.2, turn_tuple a _, ⟨_, Heap.get?_push_size _ rfl, rfl, rfl⟩, fun b hb => ?_, q⟩
    obtain rfl : b = s1.heap.objs.size := by simpa using hb
    exact (new (o := { cls := .none, data := .fields #[] })).1
end
theorem wipe_set {σ : St} {i : Nat} {u : Option V} : ∀ {vs : List Nat}, i ∈ vs → wipe (σ.set i u) vs = wipe σ vs
  | v :: vs, h => by
    unfold wipe
    by_cases hv : i ∈ vs
    · rw [wipe_set hv]
    · have e : v = i := by
        rcases List.mem_cons.mp h with z | z
        · exact z.symm
        · exact absurd z hv
      subst e
      have key : ∀ {ws : List Nat} {σ : St}, v ∉ ws → wipe (σ.set v u) ws = (wipe σ ws).set v u := by
        intro ws
        induction ws with
        | nil => intro σ _; rfl
        | cons w ws ih =>
          intro σ hn
          unfold wipe
          rw [ih (fun z => hn (List.mem_cons_of_mem _ z)), List.set_comm _ _ (fun z => hn (by rw [z]; exact List.mem_cons_self ..))]
      rw [key hv, List.set_set]
  | [], h => by cases h
theorem wipe_sets {vs : List Nat} : ∀ {is : List Nat} {ws : List V} {σ : St}, (∀ i ∈ is, i ∈ vs) → wipe ((is.zip ws).foldl (fun s p => s.set p.1 (some p.2)) σ) vs = wipe σ vs
  | [], _, _, _ => rfl
  | _ :: _, [], _, _ => rfl
  | i :: is, w :: ws, σ, h => by
    show wipe ((is.zip ws).foldl (fun s p => s.set p.1 (some p.2)) (σ.set i (some w))) vs = _
    rw [wipe_sets fun j hj => h j (List.mem_cons_of_mem _ hj), wipe_set (h i (List.mem_cons_self ..))]
theorem setT_wipe {K : PySem.W.Frag} {C : Cl} {ρ : List Addr} {H : Hp} {σ : St} {en en' : En} {is vs : List Nat} {d : D} {v : V} {Q : St → Hp → Prop} (RE : RelE K C ρ H σ en) (r : Rep K C ρ H d v) (hv : ∀ i ∈ is, i ∈ vs) (e : setT is en d = some en')
    (q : ∀ σ', RelE K C ρ H σ' en' → wipe σ' vs = wipe σ vs → Q σ' H) : gT K is v σ H Q := by
  unfold setT at e
  unfold gT
  split at e
  · cases e
    exact q _ (RE.set _ r) (wipe_set (hv _ (List.mem_cons_self ..)))
  · rename_i hne
    split at e
    · obtain ⟨p, ws, rfl, t, z⟩ := rep_tup.mp r
      obtain ⟨l, z2⟩ := setAll_ok (N := []) RE z e
      first
        | exact ⟨p, ws, rfl, t.sq, l, l, q _ z2 (wipe_sets hv)⟩
        | (split
           · exact absurd rfl (hne _)
           · exact ⟨p, ws, rfl, t.sq, l, l, q _ z2 (wipe_sets hv)⟩)
    · cases e
theorem RelE.unset0 {K : PySem.W.Frag} {C : Cl} {ρ : List Addr} {H : Hp} {σ : St} {en : En} (r : RelE K C ρ H σ en) (i : Nat) : RelE K C ρ H (σ.set i none) (en.set i none) := by
  refine ⟨by simp [r.len], fun j e q => ?_⟩
  by_cases hj : j = i
  · subst hj
    have hl : j < en.length := by
      have := (List.getElem?_eq_some_iff.mp q).1
      simpa using this
    rw [List.getElem?_set_self hl] at q
    cases q
  · rw [List.getElem?_set_ne (Ne.symm hj)] at q
    obtain ⟨v, h1, h2⟩ := r.at_ j e q
    exact ⟨v, by rw [List.getElem?_set_ne (Ne.symm hj)]; exact h1, h2⟩
theorem RelE.wipe {K : PySem.W.Frag} {C : Cl} {ρ : List Addr} {H : Hp} {σ : St} {en : En} (r : RelE K C ρ H σ en) : ∀ vs : List Nat, RelE K C ρ H (wipe σ vs) (wipeE en vs)
  | [] => r
  | v :: vs => by
    have := (RelE.wipe r vs).unset0 v
    unfold L2.wipe wipeE
    exact this
/-! ### comprehensions -/
/-- what an outcome promises of the list at Dd -/
def Fin (K : PySem.W.Frag) (C : Cl) (Q : Hp → Prop) (ρ : List Addr) (H : Hp) (o : Out Unit) : Prop := match o with
  | .ok _ h => ∀ ρ' H', Fr ρ H ρ' H' → RelH K C ρ' H' h → Q H'
  | _ => False
theorem Fin.from_ {K : PySem.W.Frag} {C : Cl} {Q : Hp → Prop} {ρ ρ1 : List Addr} {H H1 : Hp} {o : Out Unit} (f : Fr ρ H ρ1 H1) (p : Fin K C Q ρ H o) : Fin K C Q ρ1 H1 o := by
  cases o with
  | ok u h => exact fun ρ' H' g => p ρ' H' (f.trans g)
  | _ => exact p
theorem Fin.step {α β : Type} {K : PySem.W.Frag} {C : Cl} {R : List Addr → Hp → α → β → Prop} {Q : Hp → Prop} {Q' : β → Hp → Prop} {Wh : Value → Option Addr → Hp → Prop} {ρ : List Addr} {H : Hp} {o : Out α} {f : α → List O → Out Unit} (p : Fin K C Q ρ H (o.bind f))
    (k : ∀ a h1 ρ1 H1 v, Fr ρ H ρ1 H1 → RelH K C ρ1 H1 h1 → R ρ1 H1 a v → Fin K C Q ρ1 H1 (f a h1) → Q' v H1) : Post K C R ρ H o Q' Wh := by
  cases o with
  | ok a h1 => exact fun ρ1 H1 v g r z => k a h1 ρ1 H1 v g r z (Fin.from_ g p)
  | exc x h1 => exact p.elim
  | stuck => exact p.elim
section
variable {K : PySem.W.Frag} {C : Cl} {F : Fns} {W : WX} {ρ : List Addr} {H : Hp} {h : List O} {Dd : Addr} {i : Nat}
/-- an item is appended, or not -/
theorem put_ok {y' : D} {h2 : List O} {v : V} (R : RelH K C ρ H h) (hi : ρ[i]? = some Dd) (e : putL i (some y') h = some h2) (r : Rep K C ρ H y' v) : ∃ acc, H Dd = some (.lst acc) ∧ acc.length < sizeLine ∧ RelH K C ρ (upd H Dd (.lst (acc ++ [v]))) h2 ∧ Fr ρ H ρ (upd H Dd (.lst (acc ++ [v]))) := by
  unfold putL at e
  dsimp only at e
  split at e
  · rename_i acc ha
    split at e
    · rename_i hl
      cases e
      obtain ⟨vs, hH, rs⟩ := at_lst R ha hi
      have f : Fr ρ H ρ (upd H Dd (.lst (vs ++ [v]))) := Fr.wr (List.mem_of_getElem? hi) (nofr hH)
      refine ⟨vs, hH, ?_, R.wr (nofr hH) hi ⟨_, upd_same, (rs.append (Reps.cons r Reps.nil)).mono f⟩, f⟩
      rw [rs.length, sizeLine_eq]
      have : LIM = 4000000 := rfl
      omega
    · cases e
  · cases e
theorem wipe_sub {σ : St} {vs : List Nat} : ∀ {ws : List Nat}, (∀ i ∈ ws, i ∈ vs) → wipe (wipe σ ws) vs = wipe σ vs
  | [], _ => rfl
  | w :: ws, hw => by
    show wipe ((wipe σ ws).set w none) vs = _
    rw [wipe_set (hw w (List.mem_cons_self ..)), wipe_sub fun i hi => hw i (List.mem_cons_of_mem _ hi)]
theorem Out.bind_assoc' {α β γ : Type} {o : Out α} {f : α → List O → Out β} {g : β → List O → Out γ} : (o.bind f).bind g = o.bind fun a h => (f a h).bind g := by
  cases o <;> rfl
/-- nothing may be raised within -/
abbrev W0 : WX := fun _ _ _ _ => False
def tTk (K : PySem.W.Frag) (C : Cl) (F : Fns) (k : Bool) (c : E) : TT := if k = true then tT K C F W0 c else tYes
theorem turn_ok {k : Bool} {c elt : E} {vs tgs : List Nat} {en en1 : En} {d : D} {x : V} {σ : St} {Q : Hp → Prop} {Nx : Hp → Prop} {rest : List O → Out Unit} (R : RelH K C ρ H h) (RE : RelE K C ρ H (wipe σ vs) en) (hi : ρ[i]? = some Dd) (r : Rep K C ρ H d x) (ht : ∀ j ∈ tgs, j ∈ vs) (e : setT tgs en d = some en1)
    (p : Fin K C Q ρ H ((elI k (evE F c) (evE F elt) en1 h).bind fun y h => match putL i y h with
      | some h => rest h
      | none => .stuck)) (nx : ∀ ρ' H' h', Fr ρ H ρ' H' → RelH K C ρ' H' h' → ρ'[i]? = some Dd → Fin K C Q ρ' H' (rest h') → Nx H') :
    gT K tgs x (wipe σ vs) H fun σ2 H2 => wipe σ2 vs = wipe σ vs ∧ tTk K C F k c σ2 H2 fun b H3 => if b = true then tE K C F W0 elt σ2 H3 fun y H4 => ∃ acc, H4 Dd = some (.lst acc) ∧ acc.length < sizeLine ∧ Nx (upd H4 Dd (.lst (acc ++ [y]))) else Nx H3 := by
  have keep : ∀ {ρ' : List Addr} {H' : Hp}, Fr ρ H ρ' H' → ρ'[i]? = some Dd := fun {ρ' H'} f => by
    obtain ⟨new, rfl, _⟩ := f.ext
    rw [List.getElem?_append_left (List.getElem?_eq_some_iff.mp hi).1]; exact hi
  have app : ∀ {ρ1 : List Addr} {H1 : Hp} {h1 : List O} {σ2 : St}, Fr ρ H ρ1 H1 → RelH K C ρ1 H1 h1 → RelE K C ρ1 H1 σ2 en1 → Fin K C Q ρ1 H1 ((evE F elt en1 h1).bind fun y h => match putL i (some y) h with
      | some h => rest h
      | none => .stuck) → tE K C F W0 elt σ2 H1 fun y H4 => ∃ acc, H4 Dd = some (.lst acc) ∧ acc.length < sizeLine ∧ Nx (upd H4 Dd (.lst (acc ++ [y]))) := fun {ρ1 H1 h1 σ2} f R1 RE1 p1 => by
    refine ⟨ρ1, h1, en1, R1, RE1, Fin.step p1 fun y h2 ρ2 H2 v f2 R2 r2 p2 => ?_⟩
    cases q : putL i (some y) h2 with
    | none => simp only [q] at p2; exact p2.elim
    | some h3 =>
      simp only [q] at p2
      obtain ⟨acc, hH, hz, R3, f3⟩ := put_ok R2 (keep (f.trans f2)) q r2
      exact ⟨acc, hH, hz, nx ρ2 _ h3 ((f.trans f2).trans f3) R3 (keep (f.trans f2)) (Fin.from_ f3 p2)⟩
  refine setT_wipe RE r ht e fun σ2 RE2 hw => ⟨by rw [hw]; exact wipe_sub fun _ z => z, ?_⟩
  unfold elI at p
  unfold tTk
  cases k with
  | false =>
    rw [if_neg Bool.false_ne_true] at p ⊢
    rw [Out.bind_assoc'] at p
    simp only [tYes, if_true]
    exact app (Fr.refl _ _) R RE2 p
  | true =>
    rw [if_pos rfl] at p ⊢
    rw [Out.bind_assoc'] at p
    refine ⟨ρ, h, en1, R, RE2, ?_⟩
    unfold evT
    cases ho : evE F c en1 h with
    | exc y h1 => rw [ho] at p; exact p.elim
    | stuck => rw [ho] at p; exact p.elim
    | ok t h1 =>
      rw [ho] at p
      simp only [Out.bind_ok] at p ⊢
      cases hb : truI t h1 with
      | none => simp only [hb] at p; exact p.elim
      | some b =>
        simp only [hb] at p
        simp only [ofO]
        intro ρ1 H1 v f1 R1 rv
        cases rv
        cases b with
        | true =>
          simp only at p
          rw [if_pos rfl]
          rw [Out.bind_assoc'] at p
          exact app f1 R1 (RE2.mono f1) (Fin.from_ f1 p)
        | false =>
          rw [if_neg Bool.false_ne_true]
          exact nx ρ1 H1 h1 f1 R1 (keep f1) (Fin.from_ f1 p)
/-- the new list -/
theorem new_list {ds : List D} {en : En} {σ : St} {vs : List Nat} (R : RelH K C ρ H h) (RE : RelE K C ρ H σ en) {a : Addr} (ha : H a = none) :
    RelH K C (ρ ++ [a]) (upd H a (.lst [])) (h ++ [.lst []]) ∧ Fr ρ H (ρ ++ [a]) (upd H a (.lst [])) ∧ (ρ ++ [a])[h.length]? = some a ∧ RelE K C (ρ ++ [a]) (upd H a (.lst [])) (wipe σ vs) (wipeE en vs) :=
  ⟨R.newO ha ⟨[], upd_same, Reps.nil⟩, Fr.newO ha, by rw [← R.len]; simp, (RE.mono (Fr.newO ha)).wipe vs⟩
/-- the end of it -/
theorem cmp_fin {Q : VK} {o : Out Unit} {a : Addr} {ρ0 : List Addr} {H0 : Hp} {Wh : Value → Option Addr → Hp → Prop} (f : Fr ρ0 H0 ρ H) (hi : ρ[i]? = some a) (p : Post K C (Rep K C) ρ0 H0 (cmpE i o) Q Wh) : Fin K C (Q (.ref a)) ρ H o := by
  unfold cmpE at p
  cases o with
  | ok u h =>
    intro ρ' H' g R'
    refine p ρ' H' (.ref a) (f.trans g) R' (rep_obj.mpr ⟨a, ?_, rfl⟩)
    obtain ⟨new, rfl, _⟩ := g.ext
    rw [List.getElem?_append_left (List.getElem?_eq_some_iff.mp hi).1]; exact hi
  | exc x h => exact stuck_no p
  | stuck => exact stuck_no p
/-- over data that stays: what holds ahead of the n-th turn -/
def PvC (K : PySem.W.Frag) (C : Cl) (set : D → Option En) (ev : En → List O → Out (Option D)) (i : Nat) (a : Addr) (Q : Hp → Prop) (ρ0 : List Addr) (H0 : Hp) (σ : St) (en : En) (ds : List D) (n : Nat) : Hp → Prop := fun H =>
  ∃ ρ h, Fr ρ0 H0 ρ H ∧ RelH K C ρ H h ∧ RelE K C ρ H σ en ∧ ρ[i]? = some a ∧ Fin K C Q ρ H (cmpL set ev i (ds.drop n) h)
theorem pvc_turn {k : Bool} {c elt : E} {vs tgs : List Nat} {en : En} {d : D} {x : V} {σ : St} {Q : Hp → Prop} {ρ0 : List Addr} {H0 : Hp} {ds : List D} {n : Nat} (hd : ds[n]? = some d) (r : ∀ ρ, Fr ρ0 H0 ρ H → Rep K C ρ H d x) (ht : ∀ j ∈ tgs, j ∈ vs)
    (p : PvC K C (setT tgs en) (elI k (evE F c) (evE F elt)) i Dd Q ρ0 H0 (wipe σ vs) en ds n H) :
    gT K tgs x (wipe σ vs) H fun σ2 H2 => wipe σ2 vs = wipe σ vs ∧ tTk K C F k c σ2 H2 fun b H3 => if b = true then tE K C F W0 elt σ2 H3 fun y H4 => ∃ acc, H4 Dd = some (.lst acc) ∧ acc.length < sizeLine ∧ PvC K C (setT tgs en) (elI k (evE F c) (evE F elt)) i Dd Q ρ0 H0 (wipe σ vs) en ds (n + 1) (upd H4 Dd (.lst (acc ++ [y])))
      else PvC K C (setT tgs en) (elI k (evE F c) (evE F elt)) i Dd Q ρ0 H0 (wipe σ vs) en ds (n + 1) H3 := by
  obtain ⟨ρ, h, f, R, RE, hi, p⟩ := p
  have hn : n < ds.length := (List.getElem?_eq_some_iff.mp hd).1
  have e : ds.drop n = d :: ds.drop (n + 1) := by
    rw [List.drop_eq_getElem_cons hn]
    rw [(List.getElem?_eq_some_iff.mp hd).2]
  rw [e] at p
  unfold cmpL at p
  cases h2 : setT tgs en d with
  | none => simp only [h2] at p; exact p.elim
  | some en1 =>
    simp only [h2] at p
    exact turn_ok R RE hi (r ρ f) ht h2 p fun ρ' H' h' g R' hi' p' => ⟨ρ', h', f.trans g, R', RE.mono g, hi', p'⟩
theorem pvc_end {k : Bool} {c elt : E} {set : D → Option En} {ev : En → List O → Out (Option D)} {en : En} {σ : St} {Q : Hp → Prop} {ρ0 : List Addr} {H0 : Hp} {ds : List D} (p : PvC K C set ev i Dd Q ρ0 H0 σ en ds ds.length H) : Q H := by
  obtain ⟨ρ, h, f, R, RE, hi, p⟩ := p
  rw [List.drop_length] at p
  exact p ρ H (Fr.refl _ _) R
theorem items_at {ds : List D} {ws : List V} {n : Nat} {x : V} (r : Reps K C ρ H ds ws) (hx : ws[n]? = some x) : ∃ d, ds[n]? = some d ∧ Rep K C ρ H d x := by
  have hn : n < ds.length := by rw [← r.length]; exact (List.getElem?_eq_some_iff.mp hx).1
  obtain ⟨v, h1, h2⟩ := r.get (List.getElem?_eq_getElem hn)
  rw [hx] at h1; cases h1
  exact ⟨_, List.getElem?_eq_getElem hn, h2⟩
/-- over a list that may change -/
theorem cmpO_for {k : Bool} {c elt : E} {vs tgs : List Nat} {en : En} {σ : St} {Q : Hp → Prop} {j n : Nat} {a : Addr} (ht : ∀ j ∈ tgs, j ∈ vs) (R : RelH K C ρ H h) (RE : RelE K C ρ H (wipe σ vs) en) (hi : ρ[i]? = some Dd) (hj : ρ[j]? = some a)
    (p : Fin K C Q ρ H (cmpO j (setT tgs en) (elI k (evE F c) (evE F elt)) i n 0 h)) :
    ∃ Wv : Nat → Nat → Hp → Prop, (∃ m, Wv 0 m H) ∧ ∀ t m H, Wv t m H →
      ((Itl K a).stop t H ∧ Q H) ∨ ((Itl K a).go t H ∧ ∃ Nx : Hp → Prop, (∀ H', Nx H' → ∃ m', m' < m ∧ Wv (t + 1) m' H') ∧ ∀ x H', (Itl K a).yld t H x H' → gT K tgs x (wipe σ vs) H' fun σ2 H2 => wipe σ2 vs = wipe σ vs ∧ tTk K C F k c σ2 H2 fun b H3 =>
        if b = true then tE K C F W0 elt σ2 H3 fun y H4 => ∃ acc, H4 Dd = some (.lst acc) ∧ acc.length < sizeLine ∧ Nx (upd H4 Dd (.lst (acc ++ [y]))) else Nx H3) := by
  refine ⟨fun t m H => ∃ ρ h, RelH K C ρ H h ∧ RelE K C ρ H (wipe σ vs) en ∧ ρ[i]? = some Dd ∧ ρ[j]? = some a ∧ Fin K C Q ρ H (cmpO j (setT tgs en) (elI k (evE F c) (evE F elt)) i m t h), ⟨n, ρ, h, R, RE, hi, hj, p⟩, ?_⟩
  rintro t m H ⟨ρ, h, R, RE, hi, hj, p⟩
  cases m with
  | zero => exact p.elim
  | succ m =>
    unfold cmpO at p
    cases q : h[j]? with
    | none => simp only [q] at p; exact p.elim
    | some o =>
      cases o with
      | lst ds =>
        simp only [q] at p
        obtain ⟨ws, hH, r⟩ := at_lst R q hj
        cases e : ds[t]? with
        | none =>
          simp only [e] at p
          exact .inl ⟨⟨ws, SqL.of hH, by rw [r.length]; exact List.getElem?_eq_none_iff.mp e⟩, p ρ H (Fr.refl _ _) R⟩
        | some d =>
          simp only [e] at p
          obtain ⟨v, hv, rv⟩ := r.get e
          cases h2 : setT tgs en d with
          | none => simp only [h2] at p; exact p.elim
          | some en1 =>
            simp only [h2] at p
            refine .inr ⟨⟨ws, v, SqL.of hH, hv⟩, fun H' => ∃ ρ' h', RelH K C ρ' H' h' ∧ RelE K C ρ' H' (wipe σ vs) en ∧ ρ'[i]? = some Dd ∧ ρ'[j]? = some a ∧ Fin K C Q ρ' H' (cmpO j (setT tgs en) (elI k (evE F c) (evE F elt)) i m (t + 1) h'), fun H' z => ⟨m, Nat.lt_succ_self m, z⟩, fun x H' y => ?_⟩
            obtain ⟨e1, y⟩ := y
            subst e1
            have ex := y ws (SqL.of hH)
            rw [hv] at ex; cases ex
            refine turn_ok R RE hi rv ht h2 p fun ρ' H' h' g R' hi' p' => ⟨ρ', h', R', RE.mono g, hi', ?_, p'⟩
            obtain ⟨new, rfl, _⟩ := g.ext
            rw [List.getElem?_append_left (List.getElem?_eq_some_iff.mp hj).1]; exact hj
      | _ => simp only [q] at p; exact p.elim
theorem comp_conv {W : WX} {it c elt : E} {vs tgs : List Nat} {k : Bool} {σ : St} {Q : VK} (ht : ∀ j ∈ tgs, j ∈ vs) (z : tE K C F W (.comp vs tgs k it c elt) σ H Q) : tLc (iSeq K (tE K C F W it)) (gT K tgs) (tTk K C F k c) (tE K C F W0 elt) vs σ H Q := by
  obtain ⟨ρ, h, en, R, RE, z⟩ := z
  rw [evE] at z
  refine ⟨ρ, h, en, R, RE, z.step fun d h1 ρ1 H1 v f1 R1 r1 z1 => ?_⟩
  have RE1 := RE.mono f1
  cases d with
  | tup ds =>
    obtain ⟨p, ws, rfl, t, rs⟩ := rep_tup.mp r1
    refine ⟨p, rfl, .inr ⟨⟨ws, t.sq⟩, fun Dn hD => ?_⟩⟩
    obtain ⟨R2, f2, hi, RE2⟩ := new_list (ds := ds) (vs := vs) R1 RE1 hD
    have fin := cmp_fin f2 hi z1
    refine lc_tup (xs := ws) (PvC K C (setT tgs (wipeE en vs)) (elI k (evE F c) (evE F elt)) h1.length Dn (Q (.ref Dn)) (ρ1 ++ [Dn]) (upd H1 Dn (.lst [])) (wipe σ vs) (wipeE en vs) ds) ⟨_, _, Fr.refl _ _, R2, RE2, hi, fin⟩ (fun n H' _ pv => ?_) (fun n x H' hx pv => ?_) (fun H' pv => ?_)
    · obtain ⟨ρ', h', f', _⟩ := pv
      exact (t.mono (f2.trans f')).sq
    · obtain ⟨d, hd, rd⟩ := items_at rs hx
      exact pvc_turn hd (fun ρ' f' => rd.mono (f2.trans f')) ht pv
    · rw [rs.length] at pv
      exact pvc_end (k := k) (c := c) (elt := elt) pv
  | lsF ds =>
    obtain ⟨p, ws, rfl, t, rs⟩ := rep_lsF.mp r1
    refine ⟨p, rfl, .inl ⟨⟨ws, t.sq⟩, fun Dn hD => ?_⟩⟩
    obtain ⟨R2, f2, hi, RE2⟩ := new_list (ds := ds) (vs := vs) R1 RE1 hD
    have fin := cmp_fin f2 hi z1
    refine lc_list (xs := ws) (PvC K C (setT tgs (wipeE en vs)) (elI k (evE F c) (evE F elt)) h1.length Dn (Q (.ref Dn)) (ρ1 ++ [Dn]) (upd H1 Dn (.lst [])) (wipe σ vs) (wipeE en vs) ds) ⟨_, _, Fr.refl _ _, R2, RE2, hi, fin⟩ (fun n H' _ pv => ?_) (fun n x H' hx pv => ?_) (fun H' pv => ?_)
    · obtain ⟨ρ', h', f', _⟩ := pv
      exact (t.mono (f2.trans f')).sq
    · obtain ⟨d, hd, rd⟩ := items_at rs hx
      exact pvc_turn hd (fun ρ' f' => rd.mono (f2.trans f')) ht pv
    · rw [rs.length] at pv
      exact pvc_end (k := k) (c := c) (elt := elt) pv
  | obj j =>
    cases q : h1[j]? with
    | none => simp only [q] at z1; exact stuck_no z1
    | some o =>
      cases o with
      | lst ds =>
        simp only [q] at z1
        obtain ⟨a, ws, hj, rfl, hH, rs⟩ := obj_lst R1 q r1
        refine ⟨a, rfl, .inl ⟨⟨ws, SqL.of hH⟩, fun Dn hD => ?_⟩⟩
        obtain ⟨R2, f2, hi, RE2⟩ := new_list (ds := ds) (vs := vs) R1 RE1 hD
        exact cmpO_for ht R2 RE2 hi (by rw [List.getElem?_append_left (List.getElem?_eq_some_iff.mp hj).1]; exact hj) (cmp_fin f2 hi z1)
      | _ => simp only [q] at z1; exact stuck_no z1
  | _ => exact stuck_no z1
theorem smallI_ok {i : Int} (h : smallI i = true) : -(2 ^ 62) ≤ i ∧ i < 2 ^ 62 := by
  simp only [smallI, Bool.and_eq_true, decide_eq_true_eq] at h
  omega
theorem range_at {lo hi : Int} {i : Nat} (h : i < (hi - lo).toNat) : (rangeD lo hi)[i]? = some (.int (lo + (i : Nat))) := by
  unfold rangeD
  rw [List.getElem?_map, List.getElem?_range h]
  rfl
theorem range_len {lo hi : Int} : (rangeD lo hi).length = (hi - lo).toNat := by unfold rangeD; simp
theorem cmp_range {c elt : E} {vs : List Nat} {k : Bool} {tgs : List Nat} {l m : Int} {en : En} {σ : St} {Q : VK} {Wh : Value → Option Addr → Hp → Prop} (ht : ∀ j ∈ tgs, j ∈ vs) (R : RelH K C ρ H h) (RE : RelE K C ρ H σ en)
    (z : Post K C (Rep K C) ρ H (cmpE h.length (cmpL (setT tgs (wipeE en vs)) (elI k (evE F c) (evE F elt)) h.length (rangeD l m) (h ++ [.lst []]))) Q Wh) (Dn : Addr) (hD : H Dn = none) :
    ∃ Wv : Nat → Nat → Hp → Prop, (∃ t, Wv 0 t (upd H Dn (.lst []))) ∧ ∀ i t H, Wv i t H →
      ((Itr l (m - l).toNat).stop i H ∧ Q (.ref Dn) H) ∨ ((Itr l (m - l).toNat).go i H ∧ ∃ Nx : Hp → Prop, (∀ H', Nx H' → ∃ t', t' < t ∧ Wv (i + 1) t' H') ∧ ∀ x H', (Itr l (m - l).toNat).yld i H x H' → gT K tgs x (wipe σ vs) H' fun σ2 H2 => wipe σ2 vs = wipe σ vs ∧ tTk K C F k c σ2 H2 fun b H3 =>
        if b = true then tE K C F W0 elt σ2 H3 fun y H4 => ∃ acc, H4 Dn = some (.lst acc) ∧ acc.length < sizeLine ∧ Nx (upd H4 Dn (.lst (acc ++ [y]))) else Nx H3) := by
  obtain ⟨R2, f2, hi, RE2⟩ := new_list (ds := []) (vs := vs) R RE hD
  have fin := cmp_fin f2 hi z
  refine lc_range (PvC K C (setT tgs (wipeE en vs)) (elI k (evE F c) (evE F elt)) h.length Dn (Q (.ref Dn)) (ρ ++ [Dn]) (upd H Dn (.lst [])) (wipe σ vs) (wipeE en vs) (rangeD l m)) ⟨_, _, Fr.refl _ _, R2, RE2, hi, fin⟩ (fun n H' hn pv => ?_) (fun H' pv => ?_)
  · exact pvc_turn (range_at hn) (fun ρ' f' => rep_int.mpr rfl) ht pv
  · rw [← range_len] at pv
    exact pvc_end (k := k) (c := c) (elt := elt) pv
theorem comp1_conv {W : WX} {n c elt : E} {vs : List Nat} {k : Bool} {j : Nat} {σ : St} {Q : VK} (ht : j ∈ vs) (z : tE K C F W (.comp1 vs j k n c elt) σ H Q) : tLc (iRng1 (tCons (tE K C F W n) tNil)) (gT K [j]) (tTk K C F k c) (tE K C F W0 elt) vs σ H Q := by
  obtain ⟨ρ, h, en, R, RE, z⟩ := z
  rw [evE] at z
  refine ⟨ρ, h, en, R, RE, z.step fun d h1 ρ1 H1 v f1 R1 r1 z1 => ?_⟩
  split at z1
  · split at z1
    · rename_i m hm
      cases rep_int.mp r1
      obtain ⟨a, b⟩ := smallI_ok hm
      refine ⟨_, rfl, a, b, fun Dn hD => ?_⟩
      have := cmp_range (fun i hi => by rw [List.mem_singleton.mp hi]; exact ht) R1 (RE.mono f1) z1 Dn hD
      simpa using this
    · exact stuck_no z1
  · exact stuck_no z1
/-- over two lists side by side -/
theorem cmpZ_for {k : Bool} {c elt : E} {vs tgs : List Nat} {en : En} {σ : St} {Q : Hp → Prop} {j j2 n : Nat} {a a2 : Addr} (ht : ∀ j ∈ tgs, j ∈ vs) (R : RelH K C ρ H h) (RE : RelE K C ρ H (wipe σ vs) en) (hi : ρ[i]? = some Dd) (hj : ρ[j]? = some a) (hj2 : ρ[j2]? = some a2)
    (p : Fin K C Q ρ H (cmpZ j j2 (setT tgs en) (elI k (evE F c) (evE F elt)) i n 0 h)) :
    ∃ Wv : Nat → Nat → Hp → Prop, (∃ m, Wv 0 m H) ∧ ∀ t m H, Wv t m H →
      ((Itz K a a2).stop t H ∧ Q H) ∨ ((Itz K a a2).go t H ∧ ∃ Nx : Hp → Prop, (∀ H', Nx H' → ∃ m', m' < m ∧ Wv (t + 1) m' H') ∧ ∀ x H', (Itz K a a2).yld t H x H' → gT K tgs x (wipe σ vs) H' fun σ2 H2 => wipe σ2 vs = wipe σ vs ∧ tTk K C F k c σ2 H2 fun b H3 =>
        if b = true then tE K C F W0 elt σ2 H3 fun y H4 => ∃ acc, H4 Dd = some (.lst acc) ∧ acc.length < sizeLine ∧ Nx (upd H4 Dd (.lst (acc ++ [y]))) else Nx H3) := by
  refine ⟨fun t m H => ∃ ρ h, RelH K C ρ H h ∧ RelE K C ρ H (wipe σ vs) en ∧ ρ[i]? = some Dd ∧ ρ[j]? = some a ∧ ρ[j2]? = some a2 ∧ Fin K C Q ρ H (cmpZ j j2 (setT tgs en) (elI k (evE F c) (evE F elt)) i m t h), ⟨n, ρ, h, R, RE, hi, hj, hj2, p⟩, ?_⟩
  rintro t m H ⟨ρ, h, R, RE, hi, hj, hj2, p⟩
  cases m with
  | zero => exact p.elim
  | succ m =>
    unfold cmpZ at p
    cases q : h[j]? with
    | none => simp only [q] at p; exact p.elim
    | some o =>
      cases o with
      | lst ds =>
        cases q2 : h[j2]? with
        | none => simp only [q, q2] at p; exact p.elim
        | some o2 =>
          cases o2 with
          | lst es =>
            simp only [q, q2] at p
            obtain ⟨ws, hH, r⟩ := at_lst R q hj
            obtain ⟨ws2, hH2, r2⟩ := at_lst R q2 hj2
            cases e : ds[t]? with
            | none =>
              simp only [e] at p
              exact .inl ⟨⟨ws, ws2, SqL.of hH, SqL.of hH2, .inl (by rw [r.length]; exact List.getElem?_eq_none_iff.mp e)⟩, p ρ H (Fr.refl _ _) R⟩
            | some d =>
              cases e2 : es[t]? with
              | none =>
                simp only [e, e2] at p
                exact .inl ⟨⟨ws, ws2, SqL.of hH, SqL.of hH2, .inr (by rw [r2.length]; exact List.getElem?_eq_none_iff.mp e2)⟩, p ρ H (Fr.refl _ _) R⟩
              | some d2 =>
                simp only [e, e2] at p
                obtain ⟨v, hv, rv⟩ := r.get e
                obtain ⟨w, hw, rw_⟩ := r2.get e2
                cases h2 : setT tgs en (.tup [d, d2]) with
                | none => simp only [h2] at p; exact p.elim
                | some en1 =>
                  simp only [h2] at p
                  refine .inr ⟨⟨ws, ws2, v, w, SqL.of hH, SqL.of hH2, hv, hw⟩, fun H' => ∃ ρ' h', RelH K C ρ' H' h' ∧ RelE K C ρ' H' (wipe σ vs) en ∧ ρ'[i]? = some Dd ∧ ρ'[j]? = some a ∧ ρ'[j2]? = some a2 ∧ Fin K C Q ρ' H' (cmpZ j j2 (setT tgs en) (elI k (evE F c) (evE F elt)) i m (t + 1) h'), fun H' z => ⟨m, Nat.lt_succ_self m, z⟩, fun x H' y => ?_⟩
                  obtain ⟨T, x', y', rfl, hT, rfl, f1, f2⟩ := y
                  have ex := f1 ws (SqL.of hH)
                  rw [hv] at ex; cases ex
                  have ey := f2 ws2 (SqL.of hH2)
                  rw [hw] at ey; cases ey
                  have f : Fr ρ H ρ (upd H T (.tup [v, w])) := Fr.new hT
                  refine turn_ok (R.new hT) (RE.mono f) hi (rep_tup.mpr ⟨T, _, rfl, .inl ⟨.inl upd_same, R.notin hT⟩, Reps.cons (rv.mono f) (Reps.cons (rw_.mono f) Reps.nil)⟩) ht h2 (Fin.from_ f p) fun ρ' H' h' g R' hi' p' => ⟨ρ', h', R', (RE.mono f).mono g, hi', ?_, ?_, p'⟩
                  · obtain ⟨new, rfl, _⟩ := g.ext
                    rw [List.getElem?_append_left (List.getElem?_eq_some_iff.mp hj).1]; exact hj
                  · obtain ⟨new, rfl, _⟩ := g.ext
                    rw [List.getElem?_append_left (List.getElem?_eq_some_iff.mp hj2).1]; exact hj2
          | _ => simp only [q, q2] at p; exact p.elim
      | _ => simp only [q] at p; exact p.elim
def iTwo (K : PySem.W.Frag) (z : Bool) (ta : TA) : TI := match z with
  | true => iZip K ta
  | false => iRng2 ta
theorem comp2_conv {W : WX} {z : Bool} {a b c elt : E} {vs tgs : List Nat} {k : Bool} {σ : St} {Q : VK} (ht : ∀ j ∈ tgs, j ∈ vs) (y : tE K C F W (.comp2 vs tgs z k a b c elt) σ H Q) : tLc (iTwo K z (tCons (tE K C F W a) (tCons (tE K C F W b) tNil))) (gT K tgs) (tTk K C F k c) (tE K C F W0 elt) vs σ H Q := by
  obtain ⟨ρ, h, en, R, RE, y⟩ := y
  rw [evE] at y
  cases z with
  | false =>
    refine ⟨ρ, h, en, R, RE, y.step fun d h1 ρ1 H1 v f1 R1 r1 z1 => ?_⟩
    refine ⟨ρ1, h1, en, R1, RE.mono f1, z1.step fun d2 h2 ρ2 H2 v2 f2 R2 r2 z2 => ?_⟩
    simp only at z2
    split at z2
    · split at z2
      · rename_i hm
        obtain ⟨n1, n2⟩ := Bool.and_eq_true_iff.mp hm
        cases rep_int.mp (r1.mono f2)
        cases rep_int.mp r2
        obtain ⟨a, b⟩ := smallI_ok n1
        obtain ⟨a2, b2⟩ := smallI_ok n2
        exact ⟨_, _, rfl, ⟨a, b, a2, b2⟩, fun Dn hD => cmp_range ht R2 ((RE.mono f1).mono f2) z2 Dn hD⟩
      · exact stuck_no z2
    · exact stuck_no z2
  | true =>
    refine ⟨ρ, h, en, R, RE, y.step fun d h1 ρ1 H1 v f1 R1 r1 z1 => ?_⟩
    refine ⟨ρ1, h1, en, R1, RE.mono f1, z1.step fun d2 h2 ρ2 H2 v2 f2 R2 r2 z2 => ?_⟩
    simp only at z2
    cases d with
    | obj j =>
      cases d2 with
      | obj j2 =>
        simp only at z2
        split at z2
        · rename_i ds es q q2
          obtain ⟨a, ws, ha, e1, hH, rs⟩ := obj_lst R2 q (r1.mono f2)
          obtain ⟨a2, ws2, ha2, e2, hH2, rs2⟩ := obj_lst R2 q2 r2
          subst e1 e2
          refine ⟨a, a2, ws, ws2, rfl, SqL.of hH, SqL.of hH2, fun Dn hD => ?_⟩
          obtain ⟨R3, f3, hi, RE3⟩ := new_list (ds := ds) (vs := vs) R2 ((RE.mono f1).mono f2) hD
          exact cmpZ_for ht R3 RE3 hi (by rw [List.getElem?_append_left (List.getElem?_eq_some_iff.mp ha).1]; exact ha) (by rw [List.getElem?_append_left (List.getElem?_eq_some_iff.mp ha2).1]; exact ha2) (cmp_fin f3 hi z2)
        · exact stuck_no z2
      | _ => exact stuck_no z2
    | _ => exact stuck_no z2
end
section
variable {T : Tab} {C : Cl} {F : Fns} {k : Nat} {sc : Scope} {N : List Str} {X : Cx}
theorem nameL_pg {x : Str} {i : Nat} {p : Pos} (hs : X.env.scope = sc) (hN : X.N = N) (nd : N.Nodup) (h1 : N[i]? = some x) (h2 : sc.names.lookup x = some .local) : PG X (.Name x p) (gName i) := by
  have l : X.env.scope.names.lookup x = some .local := by rw [hs]; exact h2
  exact pg_name (by rw [hN]; exact nd) (by rw [hN]; exact h1) (.inl l) (.inr l)
theorem namesL_pg (hs : X.env.scope = sc) (hN : X.N = N) (nd : N.Nodup) {ts : List Expr} : ∀ {is : List Nat}, namesL sc N ts is = true → PGs X ts (gNames is) ∧ (assignEach ts X.env).length = is.length ∧ (assignEach ts X.env).findIdx? (·.1) = none := by
  induction ts with
  | nil =>
    intro is h
    cases is with
    | nil => exact ⟨⟨fun pins s σ H vs us Q I r ⟨h1, h2⟩ => pgs_nil.run pins s σ H vs us Q I r ⟨List.length_eq_zero_iff.mp h1, by
        obtain rfl := List.length_eq_zero_iff.mp h1
        exact h2⟩⟩, rfl, rfl⟩
    | cons _ _ => simp [namesL] at h
  | cons t ts ih =>
    intro is h
    cases is with
    | nil => cases t <;> simp [namesL] at h
    | cons i is =>
      cases t with
      | Name x p =>
        simp only [namesL, Bool.and_eq_true, decide_eq_true_eq] at h
        obtain ⟨⟨h1, h2⟩, h3⟩ := h
        obtain ⟨g, l, f⟩ := ih h3
        have g1 := pgs_cons (nameL_pg (p := p) hs hN nd h1 h2) g
        refine ⟨⟨fun pins s σ H vs us Q I r ⟨e, q⟩ => g1.run pins s σ H vs us Q I r ?_⟩, ?_, ?_⟩
        · cases vs with
          | nil => cases e
          | cons v vs => exact ⟨v, vs, rfl, by simpa using e, q⟩
        · show (assignEach ts X.env).length + 1 = _
          rw [l]; rfl
        · show List.findIdx? (·.1) ((false, assign (.Name x p) X.env) :: assignEach ts X.env) = none
          rw [List.findIdx?_cons]
          simp [f]
      | _ => simp [namesL] at h
theorem tgL_pg (hs : X.env.scope = sc) (hN : X.N = N) (nd : N.Nodup) (cm : X.calm = true) {t : Expr} {is : List Nat} (h : tgL sc N t is = true) : PG X t (gT X.K is) := by
  unfold tgL at h
  split at h
  · simp only [Bool.and_eq_true, decide_eq_true_eq] at h
    exact ⟨fun pins s σ H v u Q I r z => (nameL_pg hs hN nd h.1 h.2).run pins s σ H v u Q I r z⟩
  · obtain ⟨g, l, f⟩ := namesL_pg hs hN nd h
    exact ⟨fun pins s σ H v u Q I r z => (pg_tup cm g l f).run pins s σ H v u Q I r z⟩
  · cases h
/-- range(a, b), zip(a, b) -/
theorem pi_two {z : Bool} {tg a b : Expr} {x : Str} {p pos : Pos} {ta tb : TE} (hb : twoB z x tg = true) (hg : Gl X x) (hr : X.mg "range" = none) (hz : X.mg "zip" = none) (n1 : notStar a = true) (n2 : notStar b = true) (ha : PE X a ta) (hb2 : PE X b tb) :
    PI X tg (.Call (.Name x p) [a, b] [] pos) (iTwo X.K z (tCons ta (tCons tb tNil))) := by
  have s2 : starEach [b] X.env = [(false, eval b X.env)] := by rw [star_of n2]; rfl
  have s1 : starEach [a, b] X.env = [(false, eval a X.env), (false, eval b X.env)] := by rw [star_of n1, s2]
  cases z with
  | false =>
    have e := of_decide_eq_true (show decide (x = "range") = true from hb)
    subst e
    exact pi_range2 hg hr (pa_cons ha (pa_cons hb2 pa_nil (star_of n2)) (star_of n1)) s1 s2
  | true =>
    obtain ⟨e, ht⟩ := Bool.and_eq_true_iff.mp (show (decide (x = "zip") && isTup tg) = true from hb)
    have e := of_decide_eq_true e
    subst e
    cases tg with
    | Tuple ts kk tp => exact pi_zip hg hz (pa_cons ha (pa_cons hb2 pa_nil (star_of n2)) (star_of n1)) (star_of n1) (noStars_any (by simp [noStars, n2]))
    | _ => cases ht
theorem takes0 : Takes X W0 := fun u s' ⟨_, _, _, _, _, _, _, _, _, _, _, _, _, _, _, _, w⟩ => w.elim
theorem Ctx.blk (c : Ctx T C F k sc N X) {s : Shared} {H : Hp} {scope : Scope} {L : Addr} {cl : List (Str × Addr)} {fp : List Addr} : Ctx T C F k (relS scope sc) N (X.blk s H scope (compEnvC scope cl L X.env) fp) :=
  ⟨by show relS scope X.env.scope = _; rw [c.hsc], c.nm, c.room, c.calm, c.kok, c.fns, c.cls, c.flds, c.mks, c.hsl, c.hP, c.hW, c.sal, c.eqs, c.prD, c.prs, c.cprs⟩
theorem folded' {it : Expr} {env : Env} (h : noSet it = true) : ∀ x, foldedSetIterable it env x = pure x := by
  intro x
  cases it <;> first | rfl | cases h
theorem starsTwo {a b : Expr} {env : Env} (h1 : notStar a = true) (h2 : notStar b = true) : starEach [a, b] env = [(false, eval a env), (false, eval b env)] ∧ starEach [b] env = [(false, eval b env)] := by
  have e2 : starEach [b] env = [(false, eval b env)] := by rw [star_of h2]; rfl
  exact ⟨by rw [star_of h1, e2], e2⟩
/-- a clause's tests -/
theorem ifs_ok {ifs : List Expr} {b : Bool} {cc : E} {n : Nat} (h : (match ifs with
      | [] => !b
      | [c] => b && okE T F.gl sc N n c cc
      | _ => false) = true) (hc : ∀ e A, okE T F.gl sc N n e A = true → PT X e (tT X.K C F W0 A)) : PTs X ifs (tTk X.K C F b cc) := by
  unfold tTk
  split at h
  · have : b = false := by simpa using h
    subst this
    exact pts_nil
  · simp only [Bool.and_eq_true] at h
    rw [if_pos h.1]
    exact pts_one (hc _ _ h.2)
  · cases h
end
end Mi

set_option Elab.async false
set_option linter.all false
set_option maxRecDepth 100000
set_option maxHeartbeats 2000000
/-! MiM: methods of lists and texts. -/
namespace Mi
open PySem L2
section
variable {K : PySem.W.Frag} {C : Cl} {ρ : List Addr} {H : Hp} {h : List O}
theorem reps_strs : ∀ (ys : List Str), Reps K C ρ H (ys.map D.str) (ys.map V.str)
  | [] => Reps.nil
  | y :: ys => Reps.cons (rep_str.mpr rfl) (reps_strs ys)
theorem strs_of : ∀ {l : List D} {vs : List V} {ys : List Str}, Reps K C ρ H l vs → optAll (l.map strD) = some ys → vs = ys.map V.str
  | [], _, ys, r, e => by
    rw [Reps] at r; subst r
    cases e; rfl
  | d :: l, _, ys, r, e => by
    rw [Reps] at r
    obtain ⟨v, us, rfl, a, b⟩ := r
    rw [List.map_cons] at e
    cases d with
    | str s =>
      change optAll (some s :: l.map strD) = some ys at e
      rw [optAll] at e
      split at e
      · rename_i hh2
        cases e
        rw [strs_of b hh2, rep_str.mp a]; rfl
      · cases e
    | _ => cases e
end
section
variable {C : Cl} {F : Fns} {X : Cx} {W : WX} {o e : Expr} {ap pos : Pos} {b : Bm} {A B : E}
theorem obj_of {h : List O} {x : D} {m : Bm} (hm : (match x with
    | .obj i => (match h[i]? with
      | some (.lst _) => true
      | _ => false)
    | _ => false) = true) : ∃ i l, x = .obj i ∧ h[i]? = some (.lst l) := by
  split at hm
  · rename_i i
    split at hm
    · rename_i l hl
      exact ⟨i, l, rfl, hl⟩
    · cases hm
  · cases hm
theorem str_of {x : D} (hm : (match x with
    | .str _ => true
    | _ => false) = true) : ∃ s, x = .str s := by
  split at hm
  · exact ⟨_, rfl⟩
  · cases hm
theorem ty_lst {K : PySem.W.Frag} {ρ : List Addr} {H : Hp} {h : List O} {i : Nat} {l : List D} {v : V} (R : RelH K C ρ H h) (q : h[i]? = some (.lst l)) (r : Rep K C ρ H (.obj i) v) : tyV K "list" v H := by
  obtain ⟨a, vs, ha, rfl, hH, _⟩ := obj_lst R q r
  exact .inl ⟨rfl, vs, SqL.of hH⟩
/-- a method without arguments -/
theorem bm_pe0 (h1 : bm0 b = true) (h2 : notSuper o = true) (h3 : (Pos.endLine ap == Pos.line pos) = true) (hA : PE X o (tE X.K C F W A)) : PE X (.Call (.Attribute o (bmN b) ap) [] [] pos) (tE X.K C F W (.bm b A .nil)) := by
  cases b with
  | pop =>
    refine PE.weak (pe_bm0 PySem.F.plainAttrs_list PySem.F.slot_list_pop PySem.F.type_list_pop mt_pop hA (base_of h2) h3) fun σ H Q ⟨ρ, h, en, R, RE, z⟩ => ?_
    rw [evE] at z
    refine ⟨ρ, h, en, R, RE, z.step fun x h1 ρ1 H1 v f1 R1 r1 z1 => ?_⟩
    split at z1
    · rename_i hb
      obtain ⟨i, l, rfl, hl⟩ := obj_of (m := .pop) hb
      refine ⟨ty_lst R1 hl r1, ?_⟩
      rw [evEs] at z1
      simp only [Out.bind_ok, bmI, hl] at z1
      obtain ⟨a, vs, ha, rfl, hH, r⟩ := obj_lst R1 hl r1
      split at z1
      · rename_i d hd
        obtain ⟨w, hw, rw_⟩ := r.get hd
        have f : Fr ρ1 H1 ρ1 (upd H1 a (.lst vs.dropLast)) := Fr.wr (List.mem_of_getElem? ha) (nofr hH)
        refine ⟨a, vs, w, rfl, rfl, hH, by rw [r.length]; exact hw, z1 ρ1 _ w f (R1.wr (nofr hH) ha ⟨_, upd_same, ?_⟩) (rw_.mono f)⟩
        have := (r.take (l.length - 1)).mono f
        rw [← r.length] at this
        have e2 : l.dropLast = l.take (vs.length - 1) := by rw [List.dropLast_eq_take, r.length]
        rw [e2, List.dropLast_eq_take]
        rw [List.dropLast_eq_take] at this
        exact this
      · exact stuck_no z1
    · exact stuck_no z1
  | reverse =>
    refine PE.weak (pe_bm0 PySem.F.plainAttrs_list PySem.F.slot_list_reverse PySem.F.type_list_reverse mt_reverse hA (base_of h2) h3) fun σ H Q ⟨ρ, h, en, R, RE, z⟩ => ?_
    rw [evE] at z
    refine ⟨ρ, h, en, R, RE, z.step fun x h1 ρ1 H1 v f1 R1 r1 z1 => ?_⟩
    split at z1
    · rename_i hb
      obtain ⟨i, l, rfl, hl⟩ := obj_of (m := .reverse) hb
      refine ⟨ty_lst R1 hl r1, ?_⟩
      rw [evEs] at z1
      simp only [Out.bind_ok, bmI, hl] at z1
      obtain ⟨a, vs, ha, rfl, hH, r⟩ := obj_lst R1 hl r1
      have f : Fr ρ1 H1 ρ1 (upd H1 a (.lst vs.reverse)) := Fr.wr (List.mem_of_getElem? ha) (nofr hH)
      exact ⟨a, vs, rfl, rfl, hH, z1 ρ1 _ .non f (R1.wr (nofr hH) ha ⟨_, upd_same, r.reverse.mono f⟩) (rep_non.mpr rfl)⟩
    · exact stuck_no z1
  | strip =>
    refine PE.weak (pe_m0 PySem.F.slot_str_strip PySem.F.type_str_strip mt_strip hA (base_of h2) h3) fun σ H Q ⟨ρ, h, en, R, RE, z⟩ => ?_
    rw [evE] at z
    refine ⟨ρ, h, en, R, RE, z.step fun x h1 ρ1 H1 v f1 R1 r1 z1 => ?_⟩
    split at z1
    · rename_i hb
      obtain ⟨s, rfl⟩ := str_of hb
      cases rep_str.mp r1
      refine ⟨⟨s, rfl⟩, ?_⟩
      rw [evEs] at z1
      simp only [Out.bind_ok, bmI] at z1
      split at z1
      · rename_i hl
        exact ⟨s, rfl, rfl, limOk hl, z1.ok_ R1 (rep_str.mpr rfl)⟩
      · exact stuck_no z1
    · exact stuck_no z1
  | _ => cases h1
theorem one_arg {K : PySem.W.Frag} {ρ : List Addr} {H : Hp} {h : List O} {en : En} {σ : St} {x : D} {m : Bm} {Q : VK} {Q' : List V → Hp → Prop} (R : RelH K C ρ H h) (RE : RelE K C ρ H σ en) (W : WX)
    (z : Post K C (Rep K C) ρ H ((evEs F (.cons B .nil) en h).bind fun ds h => bmI m x ds h) Q (fun c d H' => W c d σ H')) (k : ∀ d h2 ρ2 H2 v, Fr ρ H ρ2 H2 → RelH K C ρ2 H2 h2 → Rep K C ρ2 H2 d v → Post K C (Rep K C) ρ2 H2 (bmI m x [d] h2) Q (fun c d H' => W c d σ H') → Q' [v] H2) : tCons (tE K C F W B) tNil σ H Q' := by
  have e : ((evEs F (.cons B .nil) en h).bind fun ds h => bmI m x ds h) = (evE F B en h).bind fun d h => bmI m x [d] h := by
    rw [evEs]
    cases evE F B en h with
    | ok d h2 => simp only [Out.bind_ok, evEs]
    | _ => rfl
  rw [e] at z
  exact ⟨ρ, h, en, R, RE, z.step fun d h2 ρ2 H2 v f2 R2 r2 z2 => k d h2 ρ2 H2 v f2 R2 r2 z2⟩
theorem one_few {e : Expr} {cpos : Pos} {env : Env} (h : notStar e = true) : ((backTo cpos (starEach [e] env)).all (fun x => !x.1) && (backToKw cpos (keywordEach [] env)).all (fun x => x.1.isSome)
      && decide ([e].length + ([] : List Keyword).length + (if ([] : List Keyword).isEmpty then 0 else 1) < 30)) = true := by
  rw [star_of h]; rfl
/-- a method with one -/
theorem bm_pe1 (h1 : bm1 b = true) (h2 : notSuper o = true) (h3 : (Pos.endLine ap == Pos.line pos) = true) (h4 : notStar e = true) (hA : PE X o (tE X.K C F W A)) (hB : PE X e (tE X.K C F W B)) : PE X (.Call (.Attribute o (bmN b) ap) [e] [] pos) (tE X.K C F W (.bm b A (.cons B .nil))) := by
  cases b with
  | append =>
    refine PE.weak (pe_bm PySem.F.plainAttrs_list PySem.F.slot_list_append PySem.F.type_list_append mt_append hA (pa_cons hB pa_nil (star_of h4)) (base_of h2) (one_few h4) h3 (star_of h4) (noStars_any (es := []) rfl)) fun σ H Q ⟨ρ, h, en, R, RE, z⟩ => ?_
    rw [evE] at z
    refine ⟨ρ, h, en, R, RE, z.step fun x h1 ρ1 H1 v f1 R1 r1 z1 => ?_⟩
    split at z1
    · rename_i hb
      obtain ⟨i, l, rfl, hl⟩ := obj_of (m := .append) hb
      refine ⟨ty_lst R1 hl r1, one_arg R1 (RE.mono f1) W z1 fun d h2 ρ2 H2 w f2 R2 r2 z2 => ?_⟩
      simp only [bmI] at z2
      split at z2
      · rename_i l2 hl2
        obtain ⟨a, vs, ha, rfl, hH, r⟩ := obj_lst R2 hl2 (r1.mono f2)
        split at z2
        · rename_i hz
          have f : Fr ρ2 H2 ρ2 (upd H2 a (.lst (vs ++ [w]))) := Fr.wr (List.mem_of_getElem? ha) (nofr hH)
          refine ⟨a, vs, w, rfl, rfl, hH, ?_, z2 ρ2 _ .non f (R2.wr (nofr hH) ha ⟨_, upd_same, (r.append (Reps.cons r2 Reps.nil)).mono f⟩) (rep_non.mpr rfl)⟩
          rw [r.length]
          exact Nat.lt_of_lt_of_le hz (limOk (Nat.le_refl _))
        · exact stuck_no z2
      · exact stuck_no z2
    · exact stuck_no z1
  | extend =>
    refine PE.weak (pe_bm PySem.F.plainAttrs_list PySem.F.slot_list_extend PySem.F.type_list_extend mt_extend hA (pa_cons hB pa_nil (star_of h4)) (base_of h2) (one_few h4) h3 (star_of h4) (noStars_any (es := []) rfl)) fun σ H Q ⟨ρ, h, en, R, RE, z⟩ => ?_
    rw [evE] at z
    refine ⟨ρ, h, en, R, RE, z.step fun x h1 ρ1 H1 v f1 R1 r1 z1 => ?_⟩
    split at z1
    · rename_i hb
      obtain ⟨i, l, rfl, hl⟩ := obj_of (m := .extend) hb
      refine ⟨ty_lst R1 hl r1, one_arg R1 (RE.mono f1) W z1 fun d h2 ρ2 H2 w f2 R2 r2 z2 => ?_⟩
      cases d with
      | obj j =>
        simp only [bmI] at z2
        split at z2
        · rename_i l2 m2 hl2 hm2
          obtain ⟨a, vs, ha, rfl, hH, r⟩ := obj_lst R2 hl2 (r1.mono f2)
          obtain ⟨a', vs', ha', rfl, hH', r'⟩ := obj_lst R2 hm2 r2
          split at z2
          · rename_i hz
            have f : Fr ρ2 H2 ρ2 (upd H2 a (.lst (vs ++ vs'))) := Fr.wr (List.mem_of_getElem? ha) (nofr hH)
            refine ⟨a, a', vs, vs', rfl, rfl, hH, hH', ?_, z2 ρ2 _ .non f (R2.wr (nofr hH) ha ⟨_, upd_same, (r.append r').mono f⟩) (rep_non.mpr rfl)⟩
            rw [r.length, r'.length]
            exact Nat.le_of_lt (Nat.lt_of_lt_of_le hz (limOk (Nat.le_refl _)))
          · exact stuck_no z2
        · exact stuck_no z2
      | _ => exact stuck_no z2
    · exact stuck_no z1
  | split =>
    refine PE.weak (pe_bm PySem.F.plainAttrs_str PySem.F.slot_str_split PySem.F.type_str_split mt_split hA (pa_cons hB pa_nil (star_of h4)) (base_of h2) (one_few h4) h3 (star_of h4) (noStars_any (es := []) rfl)) fun σ H Q ⟨ρ, h, en, R, RE, z⟩ => ?_
    rw [evE] at z
    refine ⟨ρ, h, en, R, RE, z.step fun x h1 ρ1 H1 v f1 R1 r1 z1 => ?_⟩
    split at z1
    · rename_i hb
      obtain ⟨s, rfl⟩ := str_of hb
      cases rep_str.mp r1
      refine ⟨rfl, one_arg R1 (RE.mono f1) W z1 fun d h2 ρ2 H2 w f2 R2 r2 z2 => ?_⟩
      cases d with
      | str t =>
        cases rep_str.mp r2
        simp only [bmI] at z2
        split at z2
        · rename_i hz
          refine ⟨s, t, rfl, rfl, hz.1, ?_, new_lst R2 (reps_strs _) z2⟩
          have := hz.2
          have e1 : LIM = 4000000 := rfl
          rw [sizeLine_eq]; omega
        · exact stuck_no z2
      | _ => exact stuck_no z2
    · exact stuck_no z1
  | strip =>
    refine PE.weak (pe_bm PySem.F.plainAttrs_str PySem.F.slot_str_strip PySem.F.type_str_strip mt_stripChars hA (pa_cons hB pa_nil (star_of h4)) (base_of h2) (one_few h4) h3 (star_of h4) (noStars_any (es := []) rfl)) fun σ H Q ⟨ρ, h, en, R, RE, z⟩ => ?_
    rw [evE] at z
    refine ⟨ρ, h, en, R, RE, z.step fun x h1 ρ1 H1 v f1 R1 r1 z1 => ?_⟩
    split at z1
    · rename_i hb
      obtain ⟨s, rfl⟩ := str_of hb
      cases rep_str.mp r1
      refine ⟨rfl, one_arg R1 (RE.mono f1) W z1 fun d h2 ρ2 H2 w f2 R2 r2 z2 => ?_⟩
      cases d with
      | str t =>
        cases rep_str.mp r2
        simp only [bmI] at z2
        split at z2
        · rename_i hz
          exact ⟨s, t, rfl, rfl, limOk hz, z2.ok_ R2 (rep_str.mpr rfl)⟩
        · exact stuck_no z2
      | _ => exact stuck_no z2
    · exact stuck_no z1
  | join =>
    refine PE.weak (pe_bm PySem.F.plainAttrs_str PySem.F.slot_str_join PySem.F.type_str_join mt_join hA (pa_cons hB pa_nil (star_of h4)) (base_of h2) (one_few h4) h3 (star_of h4) (noStars_any (es := []) rfl)) fun σ H Q ⟨ρ, h, en, R, RE, z⟩ => ?_
    rw [evE] at z
    refine ⟨ρ, h, en, R, RE, z.step fun x h1 ρ1 H1 v f1 R1 r1 z1 => ?_⟩
    split at z1
    · rename_i hb
      obtain ⟨s, rfl⟩ := str_of hb
      cases rep_str.mp r1
      refine ⟨rfl, one_arg R1 (RE.mono f1) W z1 fun d h2 ρ2 H2 w f2 R2 r2 z2 => ?_⟩
      simp only [bmI] at z2
      split at z2
      · rename_i l hl
        split at z2
        · rename_i ys hys
          split at z2
          · rename_i hz
            obtain ⟨a, vs, rfl, rs, hsq⟩ := items_sq R2 r2 hl
            cases strs_of rs hys
            exact ⟨s, a, ys, rfl, rfl, hsq.elim (fun p => .inl p.2) (fun p => .inr p.2), hz, z2.ok_ R2 (rep_str.mpr rfl)⟩
          · exact stuck_no z2
        · exact stuck_no z2
      · exact stuck_no z2
    · exact stuck_no z1
  | _ => cases h1
end
end Mi

set_option Elab.async false
set_option linter.all false
set_option maxRecDepth 100000
set_option maxHeartbeats 2000000
/-! MiD: a dict written out with texts as keys, asked at once. -/
namespace Mi
open PySem L2
section
variable {K : PySem.W.Frag} {C : Cl} {ρ : List Addr} {H : Hp} {x : Addr} {l : List (Key × V)} {u : HO}
theorem rd_offD {p : Addr} {w : HO} (hx : H x = some (.dK l)) (hw : ∀ m, w ≠ .dK m) (h : Rd H p w) : Rd (upd H x u) p w := by
  rcases h with h | ⟨o, h⟩
  · exact .inl (by rw [upd_ne (fun z => by rw [z, hx] at h; exact hw _ (Option.some.inj h).symm)]; exact h)
  · exact .inr ⟨o, by rw [upd_ne (fun z => by rw [z, hx] at h; cases h)]; exact h⟩
mutual
theorem rep_offD (hx : H x = some (.dK l)) : ∀ {d : D} {v : V}, Rep K C ρ H d v → Rep K C ρ (upd H x u) d v
  | .non, _, h => rep_non.mpr (rep_non.mp h)
  | .bl _, _, h => rep_bl.mpr (rep_bl.mp h)
  | .int _, _, h => rep_int.mpr (rep_int.mp h)
  | .str _, _, h => rep_str.mpr (rep_str.mp h)
  | .adr _, _, h => rep_adr.mpr (rep_adr.mp h)
  | .obj i, _, h => rep_obj.mpr (rep_obj.mp h)
  | .tup ds, _, h => by
    obtain ⟨p, vs, e, t, r⟩ := rep_tup.mp h
    exact rep_tup.mpr ⟨p, vs, e, t.imp (fun q => ⟨rd_offD hx (by intro _ z; cases z) q.1, q.2⟩) id, reps_offD hx r⟩
  | .lsF ds, _, h => by
    obtain ⟨p, vs, e, t, r⟩ := rep_lsF.mp h
    exact rep_lsF.mpr ⟨p, vs, e, t.imp (fun q => ⟨rd_offD hx (by intro _ z; cases z) q.1, q.2⟩) id, reps_offD hx r⟩
  | .sale a b, _, h => by
    obtain ⟨p, d, e, t, n⟩ := rep_sale.mp h
    exact rep_sale.mpr ⟨p, d, e, by rw [upd_ne (fun z => by rw [z, hx] at t; cases t)]; exact t, n⟩
theorem reps_offD (hx : H x = some (.dK l)) : ∀ {ds : List D} {vs : List V}, Reps K C ρ H ds vs → Reps K C ρ (upd H x u) ds vs
  | [], _, h => by rw [Reps] at h ⊢; exact h
  | d :: ds, _, h => by
    rw [Reps] at h ⊢
    obtain ⟨v, us, e, a, b⟩ := h
    exact ⟨v, us, e, rep_offD hx a, reps_offD hx b⟩
end
theorem relH_offD {h : List O} (hx : H x = some (.dK l)) (n : x ∉ ρ) (R : RelH K C ρ H h) : RelH K C ρ (upd H x u) h := by
  refine ⟨R.len, R.nd, fun i a o e1 e2 => ?_⟩
  have r := R.at_ i a o e1 e2
  have hne : a ≠ x := fun z => n (by rw [← z]; exact List.mem_of_getElem? e1)
  have kv : ∀ {κ : Type} {l : List (κ × D)} {m : List (κ × V)}, KVs K C ρ H l m → KVs K C ρ (upd H x u) l m := fun h => Paired.mapP h fun _ _ z => ⟨z.1, rep_offD hx z.2⟩
  cases o with
  | lst ds => obtain ⟨vs, q, z⟩ := r; exact ⟨vs, by rw [upd_ne hne]; exact q, reps_offD hx z⟩
  | dT kvs =>
    obtain ⟨xs, q, z⟩ := r
    have tt : ∀ {p : Addr} {vs : List V}, TupS K ρ H p vs → TupS K ρ (upd H x u) p vs := fun {p vs} t => t.imp (fun q => ⟨rd_offD hx (by intro _ z; cases z) q.1, q.2⟩) id
    exact ⟨xs, by rw [upd_ne hne]; exact q, Paired.mapP z fun _ _ ⟨h1, h2, v, h4, h5⟩ => ⟨h1, tt h2, v, h4, rep_offD hx h5⟩⟩
  | dK kvs => obtain ⟨vs, q, z⟩ := r; exact ⟨vs, by rw [upd_ne hne]; exact q, kv z⟩
  | dN kvs =>
    obtain ⟨xs, q, z⟩ := r
    have tt : ∀ {p : Addr} {vs : List V}, TupS K ρ H p vs → TupS K ρ (upd H x u) p vs := fun {p vs} t => t.imp (fun q => ⟨rd_offD hx (by intro _ z; cases z) q.1, q.2⟩) id
    exact ⟨xs, by rw [upd_ne hne]; exact q, Paired.mapP z fun _ _ ⟨h1, ⟨t, h2, h3⟩, v, h4, h5⟩ => ⟨h1, ⟨t, tt h2, tt h3⟩, v, h4, rep_offD hx h5⟩⟩
  | dL kvs =>
    obtain ⟨o, xs, q, z⟩ := r
    have tt : ∀ {p : Addr} {vs : List V}, TupS K ρ H p vs → TupS K ρ (upd H x u) p vs := fun {p vs} t => t.imp (fun q => ⟨rd_offD hx (by intro _ z; cases z) q.1, q.2⟩) id
    exact ⟨o, xs, by rw [upd_ne hne]; exact q, Paired.mapP z fun _ _ ⟨h1, h2, v, h4, h5⟩ => ⟨h1, tt h2, v, h4, rep_offD hx h5⟩⟩
  | ins c fs => obtain ⟨dx, vs, q, z⟩ := r; exact ⟨dx, vs, by rw [upd_ne hne]; exact q, kv z⟩
theorem relE_offD {σ : St} {en : En} (hx : H x = some (.dK l)) (RE : RelE K C ρ H σ en) : RelE K C ρ (upd H x u) σ en :=
  ⟨RE.len, fun i d e => by
    obtain ⟨v, h1, h2⟩ := RE.at_ i d e
    exact ⟨v, h1, rep_offD hx h2⟩⟩
theorem flat_repD {ρ' : List Addr} {H' : Hp} {d : D} {v : V} (f : flatD d = true) (r : Rep K C ρ H d v) : Rep K C ρ' H' d v := by
  cases d with
  | non => exact rep_non.mpr (rep_non.mp r)
  | bl b => exact rep_bl.mpr (rep_bl.mp r)
  | int b => exact rep_int.mpr (rep_int.mp r)
  | str b => exact rep_str.mpr (rep_str.mp r)
  | _ => cases f
/-- the pairs, by key -/
theorem look2 {s : Str} : ∀ {ks : List Str} {ds : List D} {vs : List V}, Reps K C ρ H ds vs → ks.length = ds.length →
    (match (ks.zip ds).lookup s with
      | some d => ∃ v, (ks.zip vs).lookup s = some v ∧ Rep K C ρ H d v ∧ d ∈ ds
      | none => (ks.zip vs).lookup s = none)
  | [], ds, vs, _, _ => by simp
  | k :: ks, [], vs, _, h => by simp at h
  | k :: ks, d :: ds, vs, r, h => by
    rw [Reps] at r
    obtain ⟨v, us, rfl, a, b⟩ := r
    simp only [List.zip_cons_cons, List.lookup]
    cases hb : (s == k) with
    | true => exact ⟨v, rfl, a, List.mem_cons_self ..⟩
    | false =>
      have := look2 (s := s) b (by simpa using h)
      revert this
      cases (ks.zip ds).lookup s with
      | some d2 => exact fun ⟨v, h1, h2, h3⟩ => ⟨v, h1, h2, List.mem_cons_of_mem _ h3⟩
      | none => exact fun h => h
def kvsOf (ks : List Str) (vs : List V) : List (Key × V) := (ks.zip vs).map fun p => (.inr p.1, p.2)
theorem merge_new : ∀ (m acc : List (Key × V)), (acc ++ m).map (·.1) |>.Nodup → mergeK acc m = acc ++ m
  | [], acc, _ => by simp [mergeK]
  | p :: m, acc, nd => by
    have e : putK acc p.1 p.2 = acc ++ [p] := by
      unfold putK
      rw [if_neg]
      intro h
      rw [List.any_eq_true] at h
      obtain ⟨q, hq, e⟩ := h
      rw [List.map_append, List.nodup_append] at nd
      exact nd.2.2 q.1 (List.mem_map_of_mem hq) p.1 (by simp) (of_decide_eq_true e)
    show mergeK (putK acc p.1 p.2) m = _
    rw [e, merge_new m (acc ++ [p]) (by simpa using nd)]
    simp
theorem keys_of : ∀ {ks : List Str} {vs : List V}, vs.length = ks.length → (kvsOf ks vs).map (·.1) = ks.map Sum.inr
  | [], _, _ => rfl
  | k :: ks, [], h => by simp at h
  | k :: ks, v :: vs, h => by
    show Sum.inr k :: (kvsOf ks vs).map (·.1) = _
    rw [keys_of (by simpa using h)]; rfl
theorem val_of {s : Str} : ∀ {ks : List Str} {vs : List V}, valV (kvsOf ks vs) (.inr s) = (ks.zip vs).lookup s
  | [], _ => rfl
  | k :: ks, [] => rfl
  | k :: ks, v :: vs => by
    simp only [List.zip_cons_cons, List.lookup]
    cases hb : (s == k) with
    | true =>
      have e : k = s := (by simpa using hb : s = k).symm
      exact valV_pos (p := (Sum.inr k, v)) (by rw [e])
    | false =>
      have e : ¬ k = s := fun z => by rw [z] at hb; simp at hb
      have : valV ((Sum.inr k, v) :: kvsOf ks vs) (.inr s) = valV (kvsOf ks vs) (.inr s) := by
        have e2 : ¬ ((Sum.inr k : Key) = Sum.inr s) := fun z => e (Sum.inr.inj z)
        simp [valV, List.find?_cons, e2]
      exact this.trans val_of
end
section
variable {T : Tab} {C : Cl} {F : Fns} {k : Nat} {sc : Scope} {N : List Str} {X : Cx} {W : WX}
def trs (K : PySem.W.Frag) (C : Cl) (F : Fns) (W : WX) : List Str → Es → List (TE × TE)
  | s :: ks, .cons A As => (tC (.str s), tE K C F W A) :: trs K C F W ks As
  | _, _ => []
theorem pps_ok {p : Expr → E → Bool} {pos : Pos} (hp : ∀ v A, p v A = true → PE X v (tE X.K C F W A)) : ∀ {keys : List (Option Expr)} {ks : List Str} {vals : List Expr} {As : Es}, keysB keys ks = true → okVs p vals As = true → ks.length = vals.length → PPs X pos keys vals (trs X.K C F W ks As)
  | [], [], [], .nil, _, _, _ => pps_nil
  | [], [], [], .cons _ _, _, h, _ => by cases h
  | [], [], [], .star _ _, _, h, _ => by cases h
  | some (.Constant (.str s) j q) :: keys, s' :: ks, v :: vals, .cons A As, h1, h2, h3 => by
    simp only [keysB, Bool.and_eq_true, decide_eq_true_eq] at h1
    simp only [okVs, Bool.and_eq_true] at h2
    obtain ⟨rfl, h1⟩ := h1
    exact pps_cons pe_str (hp _ _ h2.1) (pps_ok hp h1 h2.2 (by simpa using h3))
  | [], [], _ :: _, _, _, _, h => by simp at h
  | [], _ :: _, _, _, h, _, _ => by simp [keysB] at h
  | some e :: _, [], _, _, h, _, _ => by cases e <;> simp [keysB] at h
  | none :: _, _, _, _, h, _, _ => by simp [keysB] at h
  | some _ :: _, _ :: _, [], _, _, _, h => by simp at h
  | some _ :: _, _ :: _, _ :: _, .nil, _, h, _ => by simp [okVs] at h
  | some _ :: _, _ :: _, _ :: _, .star _ _, _, h, _ => by simp [okVs] at h
  | some e :: keys, s' :: ks, v :: vals, .cons A As, h1, h2, h3 => by
    cases e with
    | Constant c j q =>
      cases c with
      | str s =>
        simp only [keysB, Bool.and_eq_true, decide_eq_true_eq] at h1
        simp only [okVs, Bool.and_eq_true] at h2
        obtain ⟨rfl, h1⟩ := h1
        exact pps_cons pe_str (hp _ _ h2.1) (pps_ok hp h1 h2.2 (by simpa using h3))
      | _ => simp [keysB] at h1
    | _ => simp [keysB] at h1
theorem pairs_of {σ : St} : ∀ {As : Es} {ks : List Str} {vals : List Expr} {p : Expr → E → Bool} {H : Hp} {Q : List V → Hp → Prop} {Q2 : List (V × V) → Hp → Prop}, okVs p vals As = true → ks.length = vals.length →
    (∀ vs H, vs.length = ks.length → Q vs H → Q2 ((kvsOf ks vs).map (fun kv => (kV kv.1, kv.2))) H) → tAs X.K C F W As σ H Q → tPairs (trs X.K C F W ks As) σ H Q2
  | .nil, [], vals, p, H, Q, Q2, h1, h2, k, z => k [] H rfl (tAs_nil z)
  | .nil, _ :: _, [], p, H, Q, Q2, h1, h2, k, z => by simp at h2
  | .nil, _ :: _, _ :: _, p, H, Q, Q2, h1, h2, k, z => by simp [okVs] at h1
  | .star _ _, _, [], p, H, Q, Q2, h1, h2, k, z => by simp [okVs] at h1
  | .star _ _, _, _ :: _, p, H, Q, Q2, h1, h2, k, z => by simp [okVs] at h1
  | .cons A As, _, [], p, H, Q, Q2, h1, h2, k, z => by simp [okVs] at h1
  | .cons A As, [], _ :: _, p, H, Q, Q2, h1, h2, k, z => by simp at h2
  | .cons A As, s :: ks, v :: vals, p, H, Q, Q2, h1, h2, k, z => by
    simp only [okVs, Bool.and_eq_true] at h1
    obtain ⟨ρ, h, en, R, RE, z⟩ := z
    rw [evEs] at z
    show tE X.K C F W A σ H fun y H2 => tPairs (trs X.K C F W ks As) σ H2 fun ps H3 => Q2 ((.str s, y) :: ps) H3
    refine ⟨ρ, h, en, R, RE, z.step fun d h1' ρ1 H1 w g1 R1 r1 z1 => ?_⟩
    have z2 : tAs X.K C F W As σ H1 fun vs H2 => Q (w :: vs) H2 := ⟨ρ1, h1', en, R1, RE.mono g1, z1.step fun ds h2' ρ2 H2 vs g2 R2 r2 z3 => z3.ok_ R2 (Reps.cons (r1.mono g2) r2)⟩
    exact pairs_of h1.2 (by simpa using h2) (fun vs H hl q => k (w :: vs) H (by simp [hl]) q) z2
/-- a dict written out and asked -/
theorem disp_at {ks : List Str} {As : Es} {vals : List Expr} {p : Expr → E → Bool} {σ : St} {H : Hp} {Q : V → Hp → Prop} {rest : List D → List O → Out D} {ρ : List Addr} {h : List O} {en : En} {Qz : VK} (h1 : okVs p vals As = true) (h2 : ks.length = vals.length) (h3 : ks.Nodup) (h4 : ks.length ≤ 15) (R : RelH X.K C ρ H h) (RE : RelE X.K C ρ H σ en)
    (z : Post X.K C (Rep X.K C) ρ H ((evEs F As en h).bind rest) Qz (fun c d H' => W c d σ H'))
    (k : ∀ q ds h1 ρ1 H2 vs, ρ1 = ρ1 → vs.length = ks.length → RelH X.K C ρ1 H2 h1 → RelE X.K C ρ1 H2 σ en → q ∉ ρ1 → H2 q = some (.dK (kvsOf ks vs)) → (∀ d ∈ ds, flatD d = true → True) → (∃ H1, Reps X.K C ρ1 H1 ds vs) → Post X.K C (Rep X.K C) ρ1 H2 (rest ds h1) Qz (fun c d H' => W c d σ H') → Q (.ref q) H2) :
    tDisp (trs X.K C F W ks As) σ H Q := by
  intro q hq
  have f0 : Fr ρ H ρ (upd H q (.dK [])) := Fr.new hq
  refine pairs_of (Q := fun vs H1 => ∃ ds h1 ρ1, evEs F As en h = .ok ds h1 ∧ Fr ρ (upd H q (.dK [])) ρ1 H1 ∧ RelH X.K C ρ1 H1 h1 ∧ Reps X.K C ρ1 H1 ds vs) h1 h2 (fun vs H1 hl ⟨ds, h1', ρ1, e, f1, R1, r1⟩ => ?_) ⟨ρ, h, en, R.new hq, RE.mono f0, ?_⟩
  · have nq := R.notin hq
    have hp1 := f1.keep q _ upd_same nq
    have nq1 := f1.out upd_same nq
    have hk : mergeK [] (kvsOf ks vs) = kvsOf ks vs := merge_new _ [] (by
      rw [List.nil_append, keys_of hl]
      exact List.Pairwise.map Sum.inr (fun a b hab z => hab (Sum.inr.inj z)) h3)
    refine ⟨hp1, kvsOf ks vs, rfl, ?_, ?_⟩
    · have : (kvsOf ks vs).length = ks.length := by rw [← List.length_map (f := (·.1)), keys_of hl, List.length_map]
      rw [this]; exact h4
    · rw [hk]
      have f2 : Fr ρ H ρ1 (upd H1 q (.dK (kvsOf ks vs))) := by
        refine ⟨fun b o e n => ?_, fun b e => ?_, ?_, fun b o u e => ?_⟩
        · have hb : b ≠ q := ne_of_none e hq
          rw [upd_ne hb]
          exact f1.keep b o (by rw [upd_ne hb]; exact e) n
        · by_cases hb : b = q
          · rw [hb]; exact hq
          · rw [upd_ne hb] at e
            have := f1.free b e
            rw [upd_ne hb] at this; exact this
        · obtain ⟨new, e1, hn⟩ := f1.ext
          refine ⟨new, e1, fun a ha => ?_⟩
          have := hn a ha
          by_cases hb : a = q
          · rw [hb, upd_same] at this; cases this
          · rw [upd_ne hb] at this; exact this
        · have hb : b ≠ q := ne_of_none e hq
          rw [upd_ne hb]
          exact f1.lock b o u (by rw [upd_ne hb]; exact e)
      rw [e] at z
      exact k q ds h1' ρ1 _ vs rfl hl (relH_offD hp1 nq1 R1) (relE_offD hp1 ((RE.mono f0).mono f1)) nq1 upd_same (fun _ _ _ => trivial) ⟨H1, r1⟩ (Post.from_ f2 z)
  · cases ho : evEs F As en h with
    | ok ds h' => exact fun ρ' H' vs f R' r' => ⟨ds, h', ρ', rfl, f, R', r'⟩
    | exc x h' => rw [ho] at z; exact fun ρ' H' c d f R' rx => z ρ' H' c d (f0.trans f) R' rx
    | stuck => rw [ho] at z; exact z
end
end Mi

set_option Elab.async false
set_option linter.all false
set_option maxRecDepth 100000
set_option maxHeartbeats 1000000
/-! MiO: two tuples of a sale and flat items, compared: what is the same is not different. -/
namespace Mi
open PySem L2 PySem.Spec PyProof.Rows
section
variable {prog : Program} {w : World} {A : Around} {E : Value → Shared → Prop} {s : Shared}
theorem tup_ne {xs ys : Array Value} {a b : Addr} {P : PySem.Fin → Shared → Prop} {I : Nat → Shared → Prop} (ha : IsTup s.heap a xs) (hb : IsTup s.heap b ys) (hsz : xs.size = ys.size)
    (turn : ∀ i u v, xs[i]? = some u → ys[i]? = some v → ∀ s', I i s' → wpAny (model prog w) A (eqBool u v) (fun r s2 => r = true ∧ I (i + 1) s2) E s') (h0 : I 0 s) (fin : ∀ i s', I i s' → P (.done (.ret (.bool false))) s') :
    wpAny (model prog w) A (Builtin.«tuple.__ne__» ⟨[.ref a, .ref b], []⟩) P E s := by
  have hTb := hb.typeIs
  obtain ⟨oa, hoa, _, na, hda⟩ := ha
  obtain ⟨ob, hob, _, nb, hdb⟩ := hb
  show wpAny _ _ (isInstance (.ref b) (.type "tuple") >>= _) _ _ s
  refine wpAny_bind (wpAny_isInstance hTb isSubtype_tuple_tuple ?_)
  simp only [Bool.not_true, Bool.false_eq_true, if_false]
  refine wpAny_bind (wpAny_tupleItemsOf hoa hda ?_)
  refine wpAny_bind (wpAny_tupleItemsOf hob hdb ?_)
  refine wpAny_bind ?_
  refine wpAny_forIn_list _
    (fun rest r s' => r.1 = none ∧ ∃ i, rest = (List.zip xs.toList ys.toList).drop i ∧ I i s')
    _ ?_ ?_ _ _ ⟨rfl, 0, rfl, h0⟩
  · rintro ⟨u, v⟩ rest r s' ⟨hr, i, hz, hi⟩
    have lt : i < (List.zip xs.toList ys.toList).length := by
      rcases Nat.lt_or_ge i (List.zip xs.toList ys.toList).length with z | z
      · exact z
      · rw [List.drop_of_length_le z] at hz; cases hz
    rw [List.drop_eq_getElem_cons lt] at hz
    obtain ⟨e1, e2⟩ := List.cons.inj hz
    have e3 : (List.zip xs.toList ys.toList)[i]? = some (u, v) := by rw [List.getElem?_eq_getElem lt, ← e1]
    rw [List.getElem?_zip_eq_some] at e3
    obtain ⟨g1, g2⟩ := e3
    refine wpAny_bind (wpAny_mono (turn i u v (by simpa using g1) (by simpa using g2) s' hi) (fun r2 s2 q => ?_) fun _ _ e => e)
    obtain ⟨rfl, q⟩ := q
    simp only [Bool.not_true, Bool.false_eq_true, if_false]
    exact wpAny_pure ⟨rfl, i + 1, e2, q⟩
  · rintro ⟨r1, r2⟩ s' ⟨hr, i, hz, hi⟩
    simp only at hr
    subst hr
    refine wpAny_pure ?_
    show P (.done (.ret (.bool (xs.size != ys.size)))) s'
    rw [hsz, bne_self_eq_false]
    exact fin i s' hi
theorem rc_ne {xs ys : Array Value} {a b : Addr} {Q : Value → Shared → Prop} {I : Nat → Shared → Prop} (hu : A.units < cLine) (ha : IsTup s.heap a xs) (hb : IsTup s.heap b ys) (hsz : xs.size = ys.size)
    (turn : ∀ i u v, xs[i]? = some u → ys[i]? = some v → ∀ s', I i s' → wpAny (model prog w) A.in1 (eqBool u v) (fun r s2 => r = true ∧ I (i + 1) s2) E s') (h0 : I 0 s) (fin : ∀ i s', I i s' → Q (.bool false) s') :
    wpAny (model prog w) A (richCompare .NotEq (.ref a) (.ref b)) Q E s :=
  wpAny_richCompare_same_room (op := .NotEq) ha.typeIs hb.typeIs PySem.F.slot_tuple_ne
    (wpAny_call_entry PySem.F.slot_tuple_ne ha.typeIs PySem.F.entry_tuple_ne (tup_ne ha hb hsz turn h0 fun i s' q => ⟨_, rfl, (fun e => nomatch e), fin i s' q⟩) (PySem.F.args_tuple_ne_2 _ _)) hu
end
section
variable {X : Cx} {C : Cl} {F : Fns} {ρ : List Addr} {H : Hp} {h : List O}
/-- tuples of flat values, the same -/
theorem flat_eq {A : Around} {pins : List (Addr × Obj)} {s : Shared} {σ : L2.St} {a b : Addr} {xs ys : List V} (hu : A.units < cLine) (I : Inv X pins σ H s) (ha : SqT X.K H a xs) (hb : SqT X.K H b ys) (p : Prs DFlat xs ys H) :
    wpAny (model X.prog X.w) A (eqBool (.ref a) (.ref b)) (fun r s' => r = true ∧ Inv X pins σ H s') X.xe s := by
  by_cases hab : a = b
  · subst hab
    exact SeqAt.EqAt.same (A := A) (s := s) (.ref a) X.prog X.w X.xe _ ⟨rfl, I⟩
  · obtain ⟨its, r, e, z⟩ := I.tuple ha
    obtain ⟨its2, r2, e2, z2⟩ := I.tuple hb
    have hsz : its.toArray.size = its2.toArray.size := by rw [List.size_toArray, List.size_toArray, ← r.length, ← r2.length]; exact p.1
    refine GQ.eqBool_refG hab (GQ.rc_tupG hsz hu (fun _ s' => Inv X pins σ H s') e e2 (fun i h1 h2 s' q => ?_) (fun s' q => ⟨true, rfl, rfl, q⟩) I)
    have g1 : its[i]? = some its.toArray[i] := by
      have h1' : i < its.length := by simpa using h1
      rw [List.getElem?_eq_getElem h1'] <;> simp
    have g2 : its2[i]? = some its2.toArray[i] := by
      have h2' : i < its2.length := by simpa using h2
      rw [List.getElem?_eq_getElem h2'] <;> simp
    have k1 : i < xs.length := by rw [r.length]; simpa using h1
    have k2 : i < ys.length := by rw [r2.length]; simpa using h2
    obtain ⟨u, hu', ru⟩ := r.get (List.getElem?_eq_getElem k1)
    obtain ⟨v, hv, rv⟩ := r2.get (List.getElem?_eq_getElem k2)
    rw [g1] at hu'
    rw [g2] at hv
    rw [Option.some.inj hu', Option.some.inj hv]
    obtain ⟨f1, f2, f3⟩ := p.2 i _ _ (List.getElem?_eq_getElem k1) (List.getElem?_eq_getElem k2)
    have t := eqAt_V (A := A.in1) (s := s') ru rv f1 f2
    rw [f3] at t
    exact t X.prog X.w X.xe _ ⟨rfl, q⟩
theorem same_prs : ∀ {ds es : List Mi.D} {vs us : List V}, sameL ds es = true → Reps X.K C ρ H ds vs → Reps X.K C ρ H es us → Prs DFlat vs us H
  | [], [], vs, us, _, r1, r2 => by
    rw [Reps] at r1 r2
    subst r1 r2
    exact Prs.nil
  | d :: ds, e :: es, vs, us, hs, r1, r2 => by
    obtain ⟨h1, h2⟩ := Bool.and_eq_true_iff.mp (show (sameI d e && sameL ds es) = true from hs)
    rw [Reps] at r1 r2
    obtain ⟨v, vs', rfl, a1, a2⟩ := r1
    obtain ⟨u, us', rfl, b1, b2⟩ := r2
    refine Prs.cons ?_ (same_prs h2 a2 b2)
    cases d <;> cases e <;> first | (cases h1; done) | skip
    · cases rep_int.mp a1; cases rep_int.mp b1
      have z := eq_of_beq (show (_ == _) = true from h1)
      subst z
      exact ⟨rfl, rfl, by simp [eqV]⟩
    · cases rep_str.mp a1; cases rep_str.mp b1
      have z := eq_of_beq (show (_ == _) = true from h1)
      subst z
      exact ⟨rfl, rfl, by simp [eqV]⟩
  | [], _ :: _, _, _, hs, _, _ => by cases hs
  | _ :: _, [], _, _, hs, _, _ => by cases hs
theorem fr_ext {ρ : List Addr} {H H' : Hp} (e : Ext H H') : Fr ρ H ρ H' := by
  refine ⟨fun b o h _ => e b o h, fun b h => ?_, ⟨[], by simp, by simp⟩, fun b o u h => e b _ h⟩
  cases q : H b with
  | none => rfl
  | some o => rw [e b o q] at h; cases h
theorem rel_ext {K : PySem.W.Frag} {ρ : List Addr} {H H' : Hp} {h : List O} (R : RelH K C ρ H h) (e : Ext H H') : RelH K C ρ H' h := by
  refine R.mono (fr_ext e) fun a ha => ?_
  obtain ⟨i, hi⟩ := List.getElem?_of_mem ha
  have hl : i < h.length := by rw [← R.len]; exact (List.getElem?_eq_some_iff.mp hi).1
  obtain ⟨w, q, _⟩ := (R.at_ i a _ hi (List.getElem?_eq_getElem hl)).there
  rw [q]; exact e a w q
def rNeT (K : PySem.W.Frag) (C : Cl) (F : Fns) (f : Nat) : R2 := fun x y H Q => ∃ ρ h d e, RelH K C ρ H h ∧ Rep K C ρ H d x ∧ Rep K C ρ H e y ∧ sameT F f d e = true ∧ ∀ H', Ext H H' → Q (.bl false) H'
/-- what a sale's own == says of two -/
def saleR (K : PySem.W.Frag) (C : Cl) (F : Fns) (f : Nat) : Addr → Addr → Hp → Prop := fun a b H => ∃ d e h2, Rep K C [] H d (.ref a) ∧ Rep K C [] H e (.ref b) ∧ F.fn f [d, e] [] = .ok (.bl true) h2
theorem op_neT {T : Tab} {k : Nat} {sc : Scope} {N : List Str} (c : Ctx T C F k sc N X) {f : Nat} (hf : f ∈ T.eqF) : OpR X (compareOp .NotEq) (rNeT X.K C F f) := by
  intro pins s σ H x y v u Q I rx ry ⟨ρ, h, d, e, R, r1, r2, hs, q⟩
  obtain ⟨fa, fs, hi, ⟨fd, ps, kp, bd, G⟩⟩ := c.eqs f hf
  -- the two
  obtain ⟨sa, ds, rfl⟩ : ∃ sa ds, d = .tup [sa, .tup ds] := by
    unfold sameT at hs
    split at hs
    · exact ⟨_, _, rfl⟩
    · cases hs
  obtain ⟨sb, es, rfl⟩ : ∃ sb es, e = .tup [sb, .tup es] := by
    unfold sameT at hs
    split at hs
    · rename_i z; exact ⟨_, _, rfl⟩
    · cases hs
  obtain ⟨g, t, rfl⟩ : ∃ g t, sa = .sale g t := by
    cases sa <;> first | (cases hs; done) | exact ⟨_, _, rfl⟩
  obtain ⟨g2, t2, rfl⟩ : ∃ g2 t2, sb = .sale g2 t2 := by
    cases sb <;> first | (cases hs; done) | exact ⟨_, _, rfl⟩
  obtain ⟨h1, h2⟩ := Bool.and_eq_true_iff.mp (show ((match F.fn f [.sale g t, .sale g2 t2] [] with
    | .ok (.bl true) _ => true
    | _ => false) && sameL ds es) = true from hs)
  obtain ⟨hh, hfn⟩ : ∃ hh, F.fn f [.sale g t, .sale g2 t2] [] = .ok (.bl true) hh := by
    split at h1
    · rename_i z; exact ⟨_, z⟩
    · cases h1
  obtain ⟨a, vs, rfl, ta, ra⟩ := rep_tup.mp r1
  obtain ⟨b, us, rfl, tb, rb⟩ := rep_tup.mp r2
  rw [Reps] at ra rb
  obtain ⟨va, vs, rfl, ra1, ra⟩ := ra
  obtain ⟨vb, us, rfl, rb1, rb⟩ := rb
  rw [Reps] at ra rb
  obtain ⟨wa, vs, rfl, ra2, ra⟩ := ra
  obtain ⟨wb, us, rfl, rb2, rb⟩ := rb
  rw [Reps] at ra rb
  subst ra rb
  cases rx
  cases ry
  obtain ⟨pa, dxa, rfl, hHa, za⟩ := rep_sale.mp ra1
  obtain ⟨pb, dxb, rfl, hHb, zb⟩ := rep_sale.mp rb1
  obtain ⟨qa, xs, rfl, tqa, rqa⟩ := rep_tup.mp ra2
  obtain ⟨qb, ys, rfl, tqb, rqb⟩ := rep_tup.mp rb2
  have pr := same_prs h2 rqa rqb
  have E0 : Ext H H := Ext.rfl'
  -- the own ==
  have FE : FnOk X.prog X.w X.K X.mg X.base (L2.CX X.prog X.w) (2 * k) fa fd ps (spEq (saleR X.K C F f)) := G.imp (fun vs H1 Q1 E1 ⟨a1, b1, ev, ⟨d1, e1, hh1, k1, k2, k3⟩, kq⟩ => by
    subst ev
    refine ⟨[], [], [d1, e1], ⟨rfl, List.nodup_nil, fun i a o z => by simp at z⟩, Reps.cons k1 (Reps.cons k2 Reps.nil), ?_⟩
    rw [k3]
    intro ρ' H' v1 f1 R1 rv
    cases rep_bl.mp rv
    exact kq H' fun b o z => f1.keep b o z (by simp))
  have noE : Passes (L2.CX X.prog X.w) X (fun _ _ _ => False) := fun pins σ H s e s' I q => by
    obtain ⟨a, B, H', cls, d, _, _, _, _, _, _, _, z⟩ := q
    exact z.elim
  have eqI := eqG_ins (C := C.sale) FE fs hi bd noE
  obtain ⟨its, r, e1, z1⟩ := I.tuple ta.sq
  obtain ⟨its2, r', e2, z2⟩ := I.tuple tb.sq
  obtain ⟨u1, w1, rfl⟩ : ∃ u1 w1, its = [u1, w1] := by
    cases r with
    | cons a1 r => cases r with
      | cons a2 r => cases r; exact ⟨_, _, rfl⟩
  obtain ⟨u2, w2, rfl⟩ : ∃ u2 w2, its2 = [u2, w2] := by
    cases r' with
    | cons a1 r => cases r with
      | cons a2 r => cases r; exact ⟨_, _, rfl⟩
  obtain ⟨ru1, rw1⟩ : RelV (V.ref pa) u1 ∧ RelV (V.ref qa) w1 := by
    cases r with
    | cons a1 r => cases r with
      | cons a2 r => exact ⟨a1, a2⟩
  obtain ⟨ru2, rw2⟩ : RelV (V.ref pb) u2 ∧ RelV (V.ref qb) w2 := by
    cases r' with
    | cons a1 r => cases r with
      | cons a2 r => exact ⟨a1, a2⟩
  show wpAny (model X.prog X.w) X.A (richCompare .NotEq (.ref a) (.ref b)) (EP X pins σ Q) X.xe s
  refine rc_ne (I := fun _ s' => ∃ H', Inv X pins σ H' s' ∧ Ext H H') c.room.units0 e1 e2 rfl (fun i u v hu hv s' ⟨H1, I1, x1⟩ => ?_) ⟨H, I, E0⟩ fun i s' ⟨H1, I1, x1⟩ => ⟨.bl false, H1, I1, rfl, q H1 x1⟩
  have un : X.A.in1.units < cLine := by
    have := c.room.un
    show X.A.units + 1 < cLine
    omega
  match i, hu, hv with
  | 0, hu, hv =>
    cases hu; cases hv
    have fe := fr_ext (ρ := ([] : List Addr)) x1
    refine wpAny_mono (eqI X.A.in1 pins s' σ H1 (.ref pa) (.ref pb) _ _ ⟨c.room.in1, rfl⟩ I1 ru1 ru2 ⟨pa, pb, dxa, dxb, _, _, rfl, rfl, x1 _ _ hHa, x1 _ _ hHb, .sale g t, .sale g2 t2, hh, Rep.mono fe (rep_sale.mpr ⟨pa, dxa, rfl, hHa, by simp⟩), Rep.mono fe (rep_sale.mpr ⟨pb, dxb, rfl, hHb, by simp⟩), hfn⟩) (fun r2 s2 q2 => ?_) fun _ _ e => e
    obtain ⟨hr, H2, I2, x2⟩ := q2
    exact ⟨hr, H2, I2, x1.trans x2⟩
  | 1, hu, hv =>
    cases hu; cases hv
    cases rw1; cases rw2
    refine wpAny_mono (flat_eq un I1 (tqa.sq.ext x1) (tqb.sq.ext x1) pr) (fun r2 s2 q2 => ?_) fun _ _ e => e
    exact ⟨q2.1, H1, q2.2, x1⟩
  | i + 2, hu, hv => simp at hu
def rNe2 (K : PySem.W.Frag) (C : Cl) (F : Fns) (f : Nat) : R2 := fun x y H Q => rNeT K C F f x y H Q ∨ rC K .ne x y H Q
theorem op_ne2 {T : Tab} {k : Nat} {sc : Scope} {N : List Str} (c : Ctx T C F k sc N X) {f : Nat} (hf : f ∈ T.eqF) : OpR X (compareOp .NotEq) (rNe2 X.K C F f) :=
  (op_neT c hf).or (op_C (by have := c.room.un; omega) .ne)
theorem neT_conv {W : WX} {f : Nat} {A B : E} {σ : L2.St} {Q : VK} (z : tE X.K C F W (.neT f A B) σ H Q) : tOp (rNe2 X.K C F f) (tE X.K C F W A) (tE X.K C F W B) σ H Q := by
  obtain ⟨ρ, h, en, R, RE, z⟩ := z
  rw [evE] at z
  refine ⟨ρ, h, en, R, RE, z.step fun d1 h1 ρ1 H1 v1 f1 R1 r1 z1 => ?_⟩
  refine ⟨ρ1, h1, en, R1, RE.mono f1, z1.step fun d2 h2 ρ2 H2 v2 f2 R2 r2 z2 => ?_⟩
  split at z2
  · rename_i ht
    exact .inl ⟨ρ2, h2, d1, d2, R2, r1.mono f2, r2, ht, fun H' e => z2 ρ2 H' (.bl false) (fr_ext e) (rel_ext R2 e) (rep_bl.mpr rfl)⟩
  · obtain ⟨b, e1, z3⟩ := ofO_post (R := REq) (Post.step (R := REq) (Q := fun _ _ => True) z2 fun _ _ _ _ _ _ _ _ _ => trivial)
    rw [e1] at z2
    exact .inr (cmp_ok R2 (r1.mono f2) r2 e1 (bl_end R2 z2))
theorem neT_bl {W : WX} {f : Nat} {A B : E} {σ : L2.St} {Q : Bool → Hp → Prop} (z : tT X.K C F W (.neT f A B) σ H Q) : tE X.K C F W (.neT f A B) σ H fun x H' => ∃ k, x = .bl k ∧ Q k H' := by
  obtain ⟨ρ, h, en, R, RE, p⟩ := z
  refine ⟨ρ, h, en, R, RE, ?_⟩
  have hbl : ∀ d h', evE F (.neT f A B) en h = .ok d h' → ∃ b, d = .bl b := fun d h' e => by
    rw [evE] at e
    cases h1 : evE F A en h with
    | ok x h1' =>
      rw [h1] at e; simp only [Out.bind_ok] at e
      cases h2 : evE F B en h1' with
      | ok y h2' =>
        rw [h2] at e; simp only [Out.bind_ok] at e
        split at e
        · cases e; exact ⟨_, rfl⟩
        · cases hc : cmpI .ne x y h2' with
          | some c => rw [hc] at e; cases e; exact ⟨_, rfl⟩
          | none => rw [hc] at e; cases e
      | _ => rw [h2] at e; cases e
    | _ => rw [h1] at e; cases e
  unfold evT at p
  cases h1 : evE F (.neT f A B) en h with
  | ok d h' =>
    obtain ⟨b, rfl⟩ := hbl d h' h1
    rw [h1] at p
    intro ρ1 H1 v f1 R1 r1
    cases rep_bl.mp r1
    exact ⟨b, rfl, p ρ1 H1 b f1 R1 rfl⟩
  | exc x h' => rw [h1] at p; exact p
  | stuck => rw [h1] at p; exact p
theorem neT_pe {T : Tab} {k : Nat} {sc : Scope} {N : List Str} {W : WX} {a b : Expr} {A B : E} {pos : Pos} (c : Ctx T C F k sc N X) {f : Nat} (hf : f ∈ T.eqF) (hb : behindInMarks .NotEq b = false) (hA : PE X a (tE X.K C F W A)) (hB : PE X b (tE X.K C F W B)) : PE X (.Compare a [.NotEq] [b] pos) (tE X.K C F W (.neT f A B)) :=
  PE.weak (pe_cmpR (op_ne2 c hf) hA hB hb) fun σ H Q z => neT_conv z
theorem neT_pt {T : Tab} {k : Nat} {sc : Scope} {N : List Str} {W : WX} {a b : Expr} {A B : E} {pos : Pos} (c : Ctx T C F k sc N X) {f : Nat} (hf : f ∈ T.eqF) (hb : behindInMarks .NotEq b = false) (hA : PE X a (tE X.K C F W A)) (hB : PE X b (tE X.K C F W B)) : PT X (.Compare a [.NotEq] [b] pos) (tT X.K C F W (.neT f A B)) :=
  PT.weak (pt_cmpR (op_ne2 c hf) hA hB hb) fun σ H Q z => neT_conv (neT_bl z)
end
end Mi

set_option Elab.async false
set_option linter.all false
set_option maxRecDepth 100000
set_option maxHeartbeats 2000000
/-! MiE: dicts of nested keys. -/
namespace Mi
open PySem L2
section
variable {K : PySem.W.Frag} {C : Cl} {ρ : List Addr} {H : Hp} {h : List O}
theorem keys_rep : ∀ {ds : List D} {vs : List V} {ks : List Key}, keysOf ds = some ks → Reps K C ρ H ds vs → vs = ks.map kV
  | [], vs, ks, e, r => by
    rw [Reps] at r; subst r
    cases e; rfl
  | d :: ds, vs, ks, e, r => by
    rw [Reps] at r
    obtain ⟨v, us, rfl, a, b⟩ := r
    unfold keysOf at e
    rw [List.map_cons] at e
    cases d with
    | int i =>
      change optAll (some (.inl i) :: ds.map keyOf) = some ks at e
      rw [optAll] at e
      split at e
      · rename_i l hl
        cases e
        rw [rep_int.mp a, keys_rep (ds := ds) (ks := l) hl b]; rfl
      · cases e
    | str s =>
      change optAll (some (.inr s) :: ds.map keyOf) = some ks at e
      rw [optAll] at e
      split at e
      · rename_i l hl
        cases e
        rw [rep_str.mp a, keys_rep (ds := ds) (ks := l) hl b]; rfl
      · cases e
    | _ => cases e
theorem k2_rep {y : D} {v : V} {k : K2} (e : k2Of y = some k) (r : Rep K C ρ H y v) : ∃ b, v = .ref b ∧ NKeyR K ρ H k b := by
  unfold k2Of at e
  split at e
  · rename_i as bs
    split at e
    · rename_i a b ha hb
      cases e
      obtain ⟨p, vs, rfl, t, rs⟩ := rep_tup.mp r
      rw [Reps] at rs
      obtain ⟨v0, us, rfl, r0, r1⟩ := rs
      obtain ⟨q, ws, rfl, t0, rw0⟩ := rep_tup.mp r0
      rw [keys_rep hb r1] at t
      rw [keys_rep ha rw0] at t0
      exact ⟨p, rfl, q, t, t0⟩
    · cases e
  · cases e
theorem look_n {k : K2} : ∀ {kvs : List (K2 × D)} {xs : List (K2 × Addr × Value)}, Paired (NEnt K C ρ H) kvs xs → (match lookN kvs k with
    | some d => ∃ w v, (atKey xs k).map (·.2) = some w ∧ RelV v w ∧ Rep K C ρ H d v
    | none => atKey xs k = none)
  | _, _, .nil => rfl
  | p :: kvs, q :: xs, .cons hp t => by
    obtain ⟨h1, h2, v, h3, h4⟩ := hp
    unfold lookN atKey
    by_cases e : p.1 = k
    · have e2 : q.1 = k := h1.symm.trans e
      simp only [List.find?_cons, e, e2, decide_true, Option.map_some]
      exact ⟨q.2.2, v, rfl, h3, h4⟩
    · have e2 : ¬ q.1 = k := fun z => e (h1.trans z)
      simp only [List.find?_cons, e, e2, decide_false]
      exact look_n t
theorem keys_n : ∀ {kvs : List (K2 × D)} {xs : List (K2 × Addr × Value)}, Paired (NEnt K C ρ H) kvs xs → NKeys K H xs
  | _, _, .nil => fun x hx => by cases hx
  | p :: kvs, q :: xs, .cons hp t => fun x hx => by
    rcases List.mem_cons.mp hx with z | z
    · rw [z]; exact hp.2.1.key
    · exact keys_n t x z
theorem put_n {k : K2} {d : D} {v : V} {u : Value} {b : Addr} (kb : NKeyR K ρ H k b) (rv : RelV v u) (rd : Rep K C ρ H d v) {kvs : List (K2 × D)} {xs : List (K2 × Addr × Value)} (z : Paired (NEnt K C ρ H) kvs xs) : Paired (NEnt K C ρ H) (putN kvs k d) (storedH xs k b u) := by
  have hs : (kvs.any fun p => decide (p.1 = k)) = (atKey xs k).isSome := by
    induction z with
    | nil => rfl
    | @cons p q l m hp t ih =>
      unfold atKey at ih ⊢
      by_cases e : p.1 = k
      · have e2 : q.1 = k := hp.1.symm.trans e
        simp [List.find?_cons, e, e2]
      · have e2 : ¬ q.1 = k := fun y => e (hp.1.trans y)
        simp only [List.any_cons, List.find?_cons, e, e2, decide_false, Bool.false_or]
        exact ih
  unfold putN storedH
  rw [hs]
  by_cases q : (atKey xs k).isSome = true
  · rw [if_pos q, if_pos q]
    clear hs q
    induction z with
    | nil => exact .nil
    | @cons p q l m hp t ih =>
      rw [List.map_cons, List.map_cons]
      refine .cons ?_ ih
      obtain ⟨h1, h2, v', h3, h4⟩ := hp
      unfold putAt
      by_cases e : p.1 = k
      · rw [if_pos e, if_pos (h1.symm.trans e)]; exact ⟨h1, h2, v, rv, rd⟩
      · rw [if_neg e, if_neg (fun z => e (h1.trans z))]; exact ⟨h1, h2, v', h3, h4⟩
  · rw [if_neg q, if_neg q]
    exact Paired.snoc z ⟨rfl, kb, v, rv, rd⟩
/-- a dict of ours and a key -/
theorem nd_at {x y : D} {i : Nat} {kvs : List (K2 × D)} {k : K2} {u w : V} (R : RelH K C ρ H h) (e : ndI x y h = some (i, kvs, k)) (rx : Rep K C ρ H x u) (ry : Rep K C ρ H y w) :
    ∃ a b xs, ρ[i]? = some a ∧ u = .ref a ∧ w = .ref b ∧ H a = some (NObj C.prog C.w a xs) ∧ Paired (NEnt K C ρ H) kvs xs ∧ NKeyR K ρ H k b := by
  unfold ndI at e
  cases x with
  | obj j =>
    simp only at e
    split at e
    · rename_i m q hm hq
      cases e
      obtain ⟨a, ha, rfl⟩ := rep_obj.mp rx
      obtain ⟨xs, hH, z⟩ := R.at_ _ a _ ha hm
      obtain ⟨b, rfl, kb⟩ := k2_rep hq ry
      exact ⟨a, b, xs, ha, rfl, rfl, hH, z, kb⟩
    · cases e
  | _ => cases e
end
section
variable {C : Cl} {F : Fns} {X : Cx} {W : WX} {o i a b e : Expr} {pos : Pos} {A B V' : E}
theorem nnew_pe (hP : C.prog = X.prog) (hW : C.w = X.w) : PE X (.Dict [] [] pos) (tE X.K C F W .nnew) := by
  refine PE.weak pe_nnew fun σ H Q ⟨ρ, h, en, R, RE, z⟩ p hp => ?_
  rw [evE] at z
  have f : Fr ρ H (ρ ++ [p]) (upd H p (NObj X.prog X.w p [])) := Fr.newO hp
  refine z (ρ ++ [p]) _ _ f (R.newO hp ⟨[], ?_, .nil⟩) (rep_obj.mpr ⟨p, ?_, rfl⟩)
  · rw [hP, hW]; exact upd_same
  · rw [← R.len, List.getElem?_append_right (Nat.le_refl _)]
    simp
theorem nget_pe (hP : C.prog = X.prog) (hW : C.w = X.w) (hu : X.A.units + 2 < cLine) (hs : notSlice i = true) (hA : PE X o (tE X.K C F W A)) (hB : PE X i (tE X.K C F W B)) : PE X (.Subscript o i pos) (tE X.K C F W (.nget A B)) := by
  refine PE.weak (pe_nget hu hA hB (fun ov iv => ix_of hs ov iv)) fun σ H Q ⟨ρ, h, en, R, RE, z⟩ => ?_
  rw [evE] at z
  refine ⟨ρ, h, en, R, RE, z.step fun x h1 ρ1 H1 v1 f1 R1 r1 z1 => ?_⟩
  refine ⟨ρ1, h1, en, R1, RE.mono f1, z1.step fun y h2 ρ2 H2 v2 f2 R2 r2 z2 => ?_⟩
  split at z2
  · rename_i i kvs k hn
    obtain ⟨p, q, xs, _, rfl, rfl, hH, zz, kb⟩ := nd_at R2 hn (r1.mono f2) r2
    obtain ⟨d, e1, z3⟩ := ofO_post z2
    have lk := look_n (k := k) zz
    rw [e1] at lk
    obtain ⟨w, v, l1, l2, l3⟩ := lk
    rw [hP, hW] at hH
    exact ⟨p, q, k, xs, w, v, rfl, rfl, hH, keys_n zz, kb.key, l1, l2, z3.ok_ R2 l3⟩
  · exact stuck_no z2
theorem nin_conv {neg : Bool} {σ : St} {H : Hp} {Q : VK} (hP : C.prog = X.prog) (hW : C.w = X.w) (z : tE X.K C F W (.nin neg A B) σ H Q) : tNIn X neg (tE X.K C F W A) (tE X.K C F W B) σ H Q := by
  obtain ⟨ρ, h, en, R, RE, z⟩ := z
  rw [evE] at z
  refine ⟨ρ, h, en, R, RE, z.step fun y h1 ρ1 H1 v1 f1 R1 r1 z1 => ?_⟩
  refine ⟨ρ1, h1, en, R1, RE.mono f1, z1.step fun x h2 ρ2 H2 v2 f2 R2 r2 z2 => ?_⟩
  split at z2
  · rename_i i kvs k hn
    obtain ⟨p, q, xs, _, rfl, rfl, hH, zz, kb⟩ := nd_at R2 hn r2 (r1.mono f2)
    have lk := look_n (k := k) zz
    have e : (lookN kvs k).isSome = (atKey xs k).isSome := by
      revert lk
      cases lookN kvs k with
      | some d =>
        rintro ⟨w, v, l1, _, _⟩
        cases hq : atKey xs k with
        | none => rw [hq] at l1; cases l1
        | some _ => rfl
      | none => intro l; rw [show atKey xs k = none from l]; rfl
    rw [hP, hW] at hH
    rw [e] at z2
    exact ⟨p, q, k, xs, rfl, rfl, hH, keys_n zz, kb.key, z2.ok_ R2 (rep_bl.mpr rfl)⟩
  · exact stuck_no z2
theorem nin_pe {neg : Bool} (hP : C.prog = X.prog) (hW : C.w = X.w) (hu : X.A.units + 2 < cLine) (hb : behindInMarks (if neg = true then .NotIn else .In) b = false) (hA : PE X a (tE X.K C F W A)) (hB : PE X b (tE X.K C F W B)) :
    PE X (.Compare a [if neg = true then .NotIn else .In] [b] pos) (tE X.K C F W (.nin neg A B)) := by
  cases neg with
  | true => exact PE.weak (pe_cmp (pc_nnotin hu hA hB) hb) fun σ H Q => nin_conv hP hW
  | false => exact PE.weak (pe_cmp (pc_nin hu hA hB) hb) fun σ H Q => nin_conv hP hW
theorem nin_pt {neg : Bool} (hP : C.prog = X.prog) (hW : C.w = X.w) (hu : X.A.units + 2 < cLine) (hb : behindInMarks (if neg = true then .NotIn else .In) b = false) (hA : PE X a (tE X.K C F W A)) (hB : PE X b (tE X.K C F W B)) :
    PT X (.Compare a [if neg = true then .NotIn else .In] [b] pos) (tT X.K C F W (.nin neg A B)) := by
  have bl : ∀ {σ : St} {H : Hp} {Q : Bool → Hp → Prop}, tT X.K C F W (.nin neg A B) σ H Q → tE X.K C F W (.nin neg A B) σ H fun x H' => ∃ k, x = .bl k ∧ Q k H' := fun {σ H Q} z => by
    obtain ⟨ρ, h, en, R, RE, p⟩ := z
    refine ⟨ρ, h, en, R, RE, ?_⟩
    have hbl : ∀ d h', evE F (.nin neg A B) en h = .ok d h' → ∃ b, d = .bl b := fun d h' e => by
      rw [evE] at e
      cases h1 : evE F A en h with
      | ok x h1' =>
        rw [h1] at e; simp only [Out.bind_ok] at e
        cases h2 : evE F B en h1' with
        | ok y h2' =>
          rw [h2] at e; simp only [Out.bind_ok] at e
          split at e
          · cases e; exact ⟨_, rfl⟩
          · cases e
        | _ => rw [h2] at e; cases e
      | _ => rw [h1] at e; cases e
    unfold evT at p
    cases h1 : evE F (.nin neg A B) en h with
    | ok d h' =>
      obtain ⟨b, rfl⟩ := hbl d h' h1
      rw [h1] at p
      intro ρ1 H1 v f1 R1 r1
      cases rep_bl.mp r1
      exact ⟨b, rfl, p ρ1 H1 b f1 R1 rfl⟩
    | exc x h' => rw [h1] at p; exact p
    | stuck => rw [h1] at p; exact p
  cases neg with
  | true => exact PT.weak (pt_cmp (pc_nnotin hu hA hB) hb) fun σ H Q z => nin_conv hP hW (bl z)
  | false => exact PT.weak (pt_cmp (pc_nin hu hA hB) hb) fun σ H Q z => nin_conv hP hW (bl z)
/-! ### dicts of flat keys, a list backwards -/
theorem tk_rep {K : PySem.W.Frag} {ρ : List Addr} {H : Hp} {y : D} {v : V} {k : List Key} (e : tkOf y = some k) (r : Rep K C ρ H y v) : ∃ b, v = .ref b ∧ TupS K ρ H b (k.map kV) := by
  unfold tkOf at e
  cases y with
  | tup ds =>
    simp only at e
    obtain ⟨p, vs, rfl, t, rs⟩ := rep_tup.mp r
    rw [keys_rep e rs] at t
    exact ⟨p, rfl, t⟩
  | _ => cases e
theorem keys_t {K : PySem.W.Frag} {ρ : List Addr} {H : Hp} : ∀ {kvs : List (List Key × D)} {xs : List (List Key × Addr × Value)}, Paired (TEnt K C ρ H) kvs xs → TKeys K H xs
  | _, _, .nil => fun x hx => by cases hx
  | p :: kvs, q :: xs, .cons hp t => fun x hx => by
    rcases List.mem_cons.mp hx with z | z
    · rw [z]; exact hp.2.1.sq
    · exact keys_t t x z
theorem put_t {K : PySem.W.Frag} {ρ : List Addr} {H : Hp} {k : List Key} {d : D} {v : V} {u : Value} {b : Addr} (kb : TupS K ρ H b (k.map kV)) (rv : RelV v u) (rd : Rep K C ρ H d v) {kvs : List (List Key × D)} {xs : List (List Key × Addr × Value)} (z : Paired (TEnt K C ρ H) kvs xs) : Paired (TEnt K C ρ H) (putT kvs k d) (storedH xs k b u) := by
  have hs : (kvs.any fun p => decide (p.1 = k)) = (atKey xs k).isSome := by
    induction z with
    | nil => rfl
    | @cons p q l m hp t ih =>
      unfold atKey at ih ⊢
      by_cases e : p.1 = k
      · have e2 : q.1 = k := hp.1.symm.trans e
        simp [List.find?_cons, e, e2]
      · have e2 : ¬ q.1 = k := fun y => e (hp.1.trans y)
        simp only [List.any_cons, List.find?_cons, e, e2, decide_false, Bool.false_or]
        exact ih
  unfold putT storedH
  rw [hs]
  by_cases q : (atKey xs k).isSome = true
  · rw [if_pos q, if_pos q]
    clear hs q
    induction z with
    | nil => exact .nil
    | @cons p q l m hp t ih =>
      rw [List.map_cons, List.map_cons]
      refine .cons ?_ ih
      obtain ⟨h1, h2, v', h3, h4⟩ := hp
      unfold putAt
      by_cases e : p.1 = k
      · rw [if_pos e, if_pos (h1.symm.trans e)]; exact ⟨h1, h2, v, rv, rd⟩
      · rw [if_neg e, if_neg (fun z => e (h1.trans z))]; exact ⟨h1, h2, v', h3, h4⟩
  · rw [if_neg q, if_neg q]
    exact Paired.snoc z ⟨rfl, kb, v, rv, rd⟩
theorem td_at {K : PySem.W.Frag} {ρ : List Addr} {H : Hp} {h : List O} {x y : D} {i : Nat} {kvs : List (List Key × D)} {k : List Key} {u w : V} (R : RelH K C ρ H h) (e : tdI x y h = some (i, kvs, k)) (rx : Rep K C ρ H x u) (ry : Rep K C ρ H y w) :
    ∃ a b xs, ρ[i]? = some a ∧ u = .ref a ∧ w = .ref b ∧ H a = some (TObj C.prog C.w a xs) ∧ Paired (TEnt K C ρ H) kvs xs ∧ TupS K ρ H b (k.map kV) := by
  unfold tdI at e
  cases x with
  | obj j =>
    simp only at e
    split at e
    · rename_i m q hm hq
      cases e
      obtain ⟨a, ha, rfl⟩ := rep_obj.mp rx
      obtain ⟨xs, hH, z⟩ := R.at_ _ a _ ha hm
      obtain ⟨b, rfl, kb⟩ := tk_rep hq ry
      exact ⟨a, b, xs, ha, rfl, rfl, hH, z, kb⟩
    · cases e
  | _ => cases e
theorem tnew_pe {n : Nat} (hP : C.prog = X.prog) (hW : C.w = X.w) : PE X (.Dict [] [] pos) (tE X.K C F W (.dnew n)) := by
  refine PE.weak pe_tnew fun σ H Q ⟨ρ, h, en, R, RE, z⟩ p hp => ?_
  rw [evE] at z
  have f : Fr ρ H (ρ ++ [p]) (upd H p (TObj X.prog X.w p [])) := Fr.newO hp
  refine z (ρ ++ [p]) _ _ f (R.newO hp ⟨[], ?_, .nil⟩) (rep_obj.mpr ⟨p, ?_, rfl⟩)
  · rw [hP, hW]; exact upd_same
  · rw [← R.len, List.getElem?_append_right (Nat.le_refl _)]
    simp
theorem d1_pe (hP : C.prog = X.prog) (hW : C.w = X.w) (hu : X.A.units + 2 < cLine) (hA : PE X a (tE X.K C F W A)) (hB : PE X b (tE X.K C F W B)) : PE X (.Dict [some a] [b] pos) (tE X.K C F W (.d1 A B)) := by
  refine PE.weak (pe_tnew1 hu hA hB) fun σ H Q ⟨ρ, h, en, R, RE, z⟩ q hq => ?_
  rw [evE] at z
  have f0 : Fr ρ H (ρ ++ [q]) (upd H q (TObj X.prog X.w q [])) := Fr.newO hq
  have R0 : RelH X.K C (ρ ++ [q]) (upd H q (TObj X.prog X.w q [])) (h ++ [.dT []]) := R.newO hq ⟨[], by rw [hP, hW]; exact upd_same, .nil⟩
  show tE X.K C F W A σ _ fun y H1 => tE X.K C F W B σ H1 fun v H2 => _
  refine ⟨ρ ++ [q], h ++ [.dT []], en, R0, RE.mono f0, (Post.from_ f0 z).step fun y h1 ρ1 H1 v1 f1 R1 r1 z1 => ⟨ρ1, h1, en, R1, (RE.mono f0).mono f1, z1.step fun d h2 ρ2 H2 v2 f2 R2 r2 z2 => ?_⟩⟩
  split at z2
  · rename_i kk hi hk
    have hρ : ρ2[h.length]? = some q := by
      obtain ⟨new, e1, _⟩ := (f1.trans f2).ext
      rw [e1, ← R.len, List.getElem?_append_left (by simp), List.getElem?_append_right (Nat.le_refl _)]
      simp
    obtain ⟨xs, hH, zz⟩ := R2.at_ _ q _ hρ hi
    cases zz
    obtain ⟨b, rfl, t⟩ := tk_rep hk (r1.mono f2)
    have hH2 := hH
    rw [hP, hW] at hH2
    refine ⟨.ref b, v2, rfl, b, kk, rfl, hH2, t.sq, fun u hu => ?_⟩
    have nf : ∀ o w, H2 q ≠ some (.frz o w) := nofr hH (fun _ _ z => by unfold TObj at z; cases z)
    have fw : Fr ρ2 H2 ρ2 (upd H2 q (TObj X.prog X.w q [(kk, b, u)])) := Fr.wr (List.mem_of_getElem? hρ) nf
    refine z2 ρ2 _ (.ref q) fw (R2.wr nf hρ ⟨[(kk, b, u)], by rw [hP, hW]; exact upd_same, .cons ⟨rfl, t.mono fw, v2, hu, r2.mono fw⟩ .nil⟩) (rep_obj.mpr ⟨q, hρ, rfl⟩)
  · exact stuck_no z2
theorem rev_pe {k : Nat} {p1 p2 p3 : Pos} (hA : PE X a (tE X.K C F W A)) : PE X (.Subscript a (.Slice none none (some (.UnaryOp .USub (.Constant (.int 1) k p1) p2)) p3) pos) (tE X.K C F W (.rev A)) := by
  refine PE.weak (pe_revL hA) fun σ H Q ⟨ρ, h, en, R, RE, z⟩ => ?_
  rw [evE] at z
  refine ⟨ρ, h, en, R, RE, z.step fun x h1 ρ1 H1 v1 f1 R1 r1 z1 => ?_⟩
  cases x with
  | obj i =>
    simp only at z1
    split at z1
    · rename_i ds hi
      obtain ⟨a, vs, ha, rfl, hH, r⟩ := obj_lst R1 hi r1
      exact ⟨a, vs, rfl, SqL.of hH, new_lst R1 r.reverse z1⟩
    · exact stuck_no z1
  | _ => exact stuck_no z1
theorem cut_reps {ρ : List Addr} {H : Hp} {ds : List D} {vs : List V} {lo hi : Option Int} {K : PySem.W.Frag} (r : Reps K C ρ H ds vs) : Reps K C ρ H (cutL ds lo hi) (cutV vs lo hi) := by
  unfold cutL cutV
  rw [r.length]
  exact (r.drop _).take _
theorem slI_ok {ρ : List Addr} {H : Hp} {h : List O} {x : D} {v : V} {lo hi : Option Int} {Q : VK} {W : Value → Option Addr → Hp → Prop} (R : RelH X.K C ρ H h) (r : Rep X.K C ρ H x v) (z : Post X.K C (Rep X.K C) ρ H (slI x lo hi h) Q W) : rSlL X.K v lo hi H Q := by
  unfold slI at z
  split at z
  · rename_i hl
    split at z
    · rename_i ds e
      obtain ⟨a, vs, rfl, rs, hh⟩ := items_sq R r e
      rcases hh with ⟨_, hs⟩ | ⟨hf, _⟩
      · exact ⟨a, vs, rfl, hs, new_lst R (cut_reps rs) z⟩
      · rw [hl] at hf; cases hf
    · exact stuck_no z
  · exact stuck_no z
theorem slH_pe {b : Expr} {B : E} {p2 : Pos} (hA : PE X a (tE X.K C F W A)) (hB : PE X b (tE X.K C F W B)) : PE X (.Subscript a (.Slice none (some b) none p2) pos) (tE X.K C F W (.slH A B)) := by
  refine PE.weak (pe_slice sl_list hA po_none (po_some hB)) fun σ H Q ⟨ρ, h, en, R, RE, z⟩ => ?_
  rw [evE] at z
  refine ⟨ρ, h, en, R, RE, z.step fun x h1 ρ1 H1 v1 f1 R1 r1 z1 => ?_⟩
  refine ⟨ρ1, h1, en, R1, RE.mono f1, z1.step fun y h2 ρ2 H2 v2 f2 R2 r2 z2 => ?_⟩
  cases y with
  | int i => exact ⟨i, rep_int.mp r2, slI_ok R2 (r1.mono f2) z2⟩
  | _ => exact stuck_no z2
theorem slT_pe {b : Expr} {B : E} {p2 : Pos} (hA : PE X a (tE X.K C F W A)) (hB : PE X b (tE X.K C F W B)) : PE X (.Subscript a (.Slice (some b) none none p2) pos) (tE X.K C F W (.slT A B)) := by
  refine PE.weak (pe_slice sl_list hA (po_some hB) po_none) fun σ H Q ⟨ρ, h, en, R, RE, z⟩ => ?_
  rw [evE] at z
  refine ⟨ρ, h, en, R, RE, z.step fun x h1 ρ1 H1 v1 f1 R1 r1 z1 => ?_⟩
  refine ⟨ρ1, h1, en, R1, RE.mono f1, z1.step fun y h2 ρ2 H2 v2 f2 R2 r2 z2 => ?_⟩
  cases y with
  | int i => exact ⟨i, rep_int.mp r2, slI_ok R2 (r1.mono f2) z2⟩
  | _ => exact stuck_no z2
end
/-! ### calls with starred arguments, without any -/
section
variable {T : Tab} {C : Cl} {F : Fns} {k : Nat} {sc : Scope} {N : List Str} {X : Cx} {W : WX} {f : Expr → E → Bool} {CX : CXT}
theorem pe_callSS {kk : Nat} {ff : Addr} {fd : FuncData} {ps : List Str} {sp : Sp} {E : L2.St → XK} {x : Str} {e : Expr} {es : List Expr} {t : TA} {p pos : Pos} (G : FnOk X.prog X.w X.K X.mg X.base CX kk ff fd ps sp) (hr : Room kk X.A) (hg : Gl X x) (hm : X.mg x = some (.ref ff)) (hk : PySem.W.keepIn X.K (.ref ff) = true) (hb : Binds X.K fd ps []) (hx : ∀ σ, PassesAt CX X σ (E σ))
    (ha : PA X (e :: es) t) (hdb : (x == ("__debug__" : Str)) = false) (he : starEach (e :: es) X.env = (false, eval e X.env) :: starEach es X.env) (hst : (backTo pos (starEach es X.env)).any (·.1) = true) :
    PE X (.Call (.Name x p) (e :: es) [] pos) (tCallS sp E t) := by
  refine ⟨fun pins s σ H Q I h => ?_⟩
  refine wpAny_Call_Name_kw (ld_glob I hg hm ?_ hdb)
  refine PySem.W.callWith_S2 (h₀ := X.base) I.ok.mod.kin hk (thn (ha.run pos pins s σ H _ I h) fun us s1 ⟨vs, H1, I1, r, q⟩ => ⟨I1.kIn, ?_⟩) he hst
  exact run_fnS G hr hb (hx σ) I1 r q
theorem tAs_star {e : E} {es : Es} {σ : St} {H : Hp} {Q : List V → Hp → Prop} (h : tAs X.K C F W (.star e es) σ H Q) : StX.tStar X.K (tE X.K C F W e) (tAs X.K C F W es) σ H Q := by
  obtain ⟨ρ, h, en, R, RE, p⟩ := h
  rw [evEs] at p
  refine ⟨ρ, h, en, R, RE, p.step fun d h1 ρ1 H1 v g1 R1 r1 p1 => ?_⟩
  cases q : itemsOf d h1 with
  | none => rw [q] at p1; exact stuck_no p1
  | some l =>
    rw [q] at p1
    obtain ⟨a, vs, rfl, rs, hh⟩ := items_sq R1 r1 q
    refine ⟨a, vs, rfl, ?_, ?_⟩
    · rcases hh with ⟨_, z⟩ | ⟨_, z⟩
      · exact .inr z
      · exact .inl z
    · refine ⟨ρ1, h1, en, R1, RE.mono g1, p1.step fun ds h2 ρ2 H2 us g2 R2 r2 p2 => ?_⟩
      exact p2.ok_ R2 (Reps.append (rs.mono g2) r2)
theorem stars_pa (ih : ∀ e A, f e A = true → PE X e (tE X.K C F W A)) : ∀ {es : List Expr} {As : Es}, okStars f es As = true → PA X es (tAs X.K C F W As)
  | [], .nil, _ => PA.weak pa_nil fun σ H Q => tAs_nil
  | [], .cons _ _, h => by cases h
  | [], .star _ _, h => by cases h
  | e :: es, .nil, h => by cases e <;> cases h
  | e :: es, .star A As, h => by
    cases e with
    | Starred e p =>
      obtain ⟨h1, h2⟩ := Bool.and_eq_true_iff.mp (show (f e A && okStars f es As) = true from h)
      exact PA.weak (StX.pa_star (ih _ _ h1) (stars_pa ih h2)) fun σ H Q => tAs_star
    | _ => cases h
  | e :: es, .cons A As, h => by
    have h' : (notStar e && f e A && okStars f es As) = true := by
      cases e with
      | Starred _ _ => cases h
      | _ => exact h
    simp only [Bool.and_eq_true] at h'
    exact PA.weak (pa_cons (ih _ _ h'.1.2) (stars_pa ih h'.2) (star_of h'.1.1)) fun σ H Q => tAs_cons
theorem stars_any : ∀ {es : List Expr} {env : Env} {pos : Pos}, hasStar es = true → (backTo pos (starEach es env)).any (·.1) = true
  | [], _, _, h => by cases h
  | e :: es, env, pos, h => by
    cases q : notStar e with
    | true =>
      rw [star_of q]
      have h2 : hasStar es = true := by
        have h : (!(notStar e) || hasStar es) = true := h
        rw [q] at h; exact h
      have := stars_any (env := env) (pos := pos) h2
      unfold backTo at this ⊢
      simpa using this
    | false =>
      cases e with
      | Starred e p =>
        have : starEach (.Starred e p :: es) env = (true, eval e env) :: starEach es env := rfl
        rw [this]
        unfold backTo
        simp
      | _ => cases q
theorem callS_pe {n : Nat} {e : Expr} {es : List Expr} {x : Str} {q pos : Pos} {A : E} {As : Es} (c : Ctx T C F k sc N X) (tk : Takes X W) (hf : (x, n) ∈ T.fns) (hg : glB sc x = true) (h1 : notStar e = true) (h2 : hasStar es = true)
    (hA : PE X e (tE X.K C F W A)) (hAs : PA X es (tAs X.K C F W As)) :
    PE X (.Call (.Name x q) (e :: es) [] pos) (tE X.K C F W (.call n (.cons A As))) := by
  have pa : PA X (e :: es) (tAs X.K C F W (.cons A As)) := PA.weak (pa_cons hA hAs (star_of h1)) fun σ H Q => tAs_cons
  obtain ⟨g1, g2, g3⟩ := c.gl hg
  obtain ⟨a, hm, ⟨fd, ps, kp, bd, G⟩⟩ := c.fns x n hf
  have pe := pe_callSS (pos := pos) (p := q) G (c.room.mono (Nat.le_succ _)) g1 hm kp bd (fun σ => passAt tk σ) pa g2 (star_of h1) (stars_any h2)
  refine PE.weak pe fun σ H Q ⟨ρ, h, en, R, RE, z⟩ => ?_
  rw [evE] at z
  exact ⟨ρ, h, en, R, RE, z.step fun ds h1 ρ1 H1 vs f1 R1 r1 z1 => ⟨ρ1, h1, ds, R1, r1, z1⟩⟩
theorem pe_callS0 {kk : Nat} {ff : Addr} {fd : FuncData} {ps : List Str} {sp : Sp} {E : L2.St → XK} {x : Str} {p pos : Pos} (G : FnOk X.prog X.w X.K X.mg X.base CX kk ff fd ps sp) (hr : Room kk X.A) (hg : Gl X x) (hm : X.mg x = some (.ref ff)) (hk : PySem.W.keepIn X.K (.ref ff) = true) (hb : Binds X.K fd ps []) (hx : ∀ σ, PassesAt CX X σ (E σ))
    (hdb : (x == ("__debug__" : Str)) = false) : PE X (.Call (.Name x p) [] [] pos) (fun σ H Q => sp [] H Q (E σ)) := by
  refine ⟨fun pins s σ H Q I h => ?_⟩
  refine wpAny_Call_Name_kw (ld_glob I hg hm ?_ hdb)
  exact PySem.W.callWith_K0 I.kIn hk (run_fnS (us := []) G hr hb (hx σ) I .nil h)
theorem call0_pe {n : Nat} {x : Str} {q pos : Pos} (c : Ctx T C F k sc N X) (tk : Takes X W) (hf : (x, n) ∈ T.fns) (hg : glB sc x = true) : PE X (.Call (.Name x q) [] [] pos) (tE X.K C F W (.call n .nil)) := by
  obtain ⟨g1, g2, g3⟩ := c.gl hg
  obtain ⟨a, hm, ⟨fd, ps, kp, bd, G⟩⟩ := c.fns x n hf
  refine PE.weak (pe_callS0 (pos := pos) (p := q) G (c.room.mono (Nat.le_succ _)) g1 hm kp bd (fun σ => passAt tk σ) g2) fun σ H Q ⟨ρ, h, en, R, RE, z⟩ => ?_
  rw [evE, evEs] at z
  exact ⟨ρ, h, [], R, Reps.nil, z⟩
end
section
variable {T : Tab} {C : Cl} {F : Fns} {k : Nat} {sc : Scope} {N : List Str} {X : Cx} {W : WX}
theorem rg_reps {K : PySem.W.Frag} {ρ : List Addr} {H : Hp} : ∀ l : List Nat, Reps K C ρ H (l.map fun k => .int (0 + (k : Nat))) (l.map fun i => V.int (0 + (i : Nat)))
  | [] => Reps.nil
  | _ :: l => Reps.cons (rep_int.mpr rfl) (rg_reps l)
theorem lstS_pe {es : List Expr} {As : Es} {pos : Pos} (hA : PA X es (tAs X.K C F W As)) : PE X (.List es pos) (tE X.K C F W (.lst As)) := by
  refine PE.weak (pe_lst hA) fun σ H Q ⟨ρ, h, en, R, RE, z⟩ => ?_
  rw [evE] at z
  refine ⟨ρ, h, en, R, RE, z.step fun ds h1 ρ1 H1 vs f1 R1 r1 z1 => ?_⟩
  split at z1
  · rename_i hl
    exact ⟨by rw [r1.length]; exact limOk hl, new_lst R1 r1 z1⟩
  · exact stuck_no z1
theorem lrange_pe {a : Expr} {A : E} {q q2 pos pos2 : Pos} (c : Ctx T C F k sc N X) (g1 : glB sc "list" = true) (g2 : glB sc "range" = true) (h1 : notStar a = true) (hA : PE X a (tE X.K C F W A)) : PE X (.Call (.Name "list" q) [.Call (.Name "range" q2) [a] [] pos2] [] pos) (tE X.K C F W (.lrange A)) := by
  obtain ⟨l1, l2, l3⟩ := c.gl g1
  obtain ⟨r1, r2, r3⟩ := c.gl g2
  refine PE.weak (pe_listRg c.calm l1 (c.kok.free _ (by decide +kernel)) (prg_1 r1 (c.kok.free _ (by decide +kernel)) hA (star_of h1))) fun σ H Q ⟨ρ, h, en, R, RE, z⟩ => ?_
  rw [evE] at z
  refine ⟨ρ, h, en, R, RE, z.step fun x h1 ρ1 H1 v f1 R1 r1 z1 => ?_⟩
  split at z1
  · split at z1
    · rename_i n hn
      cases rep_int.mp r1
      exact ⟨n, rfl, ⟨by omega, by omega, by omega, by omega, by omega⟩, new_lst R1 (rg_reps _) z1⟩
    · exact stuck_no z1
  · exact stuck_no z1
end
section
variable {T : Tab} {C : Cl} {F : Fns} {k : Nat} {sc : Scope} {N : List Str} {X : Cx} {W : WX}
theorem cprop_pe {o : Expr} {p : Str} {y f : Nat} {pos : Pos} {A : E} (c : Ctx T C F k sc N X) (h1 : notSuper o = true) (hf : (y, p, f) ∈ T.cprops) (hA : PE X o (tE X.K C F W A)) : PE X (.Attribute o p pos) (tE X.K C F W (.prop y f A)) := by
  obtain ⟨pp, g, fd, ps, hc, hp, bd, G⟩ := (c.cprs _ _ _ hf).ex
  have noE : Passes (L2.CX X.prog X.w) X.nox (fun _ _ _ => False) := fun pins σ H s e s' I q => by
    obtain ⟨a, B, H', cls, d, _, _, _, _, _, _, _, z⟩ := q
    exact z.elim
  refine PE.weak (pe_prop (dvs := []) (ds := []) hA hc hp G c.room bd .nil noE (base_of h1)) fun σ H Q ⟨ρ, h, en, R, RE, z⟩ => ?_
  rw [evE] at z
  refine ⟨ρ, h, en, R, RE, z.step fun d h1 ρ1 H1 v f1 R1 r1 z1 => ?_⟩
  cases d with
  | obj i =>
    cases q : h1[i]? with
    | none => simp only [q] at z1; exact stuck_no z1
    | some o =>
      cases o with
      | ins y' fs =>
        simp only [q] at z1
        split at z1
        · rename_i hy; subst hy
          obtain ⟨a, ha, rfl⟩ := rep_obj.mp r1
          obtain ⟨dx, gs, hH, kv⟩ := R1.at_ i a _ ha q
          refine ⟨a, dx, gs, rfl, hH, ρ1, h1, [.obj i], R1, Reps.cons r1 Reps.nil, ?_⟩
          cases qf : F.fn f [.obj i] h1 with
          | ok d2 h2 => rw [qf] at z1; exact z1
          | exc x2 h2 => rw [qf] at z1; exact stuck_no z1
          | stuck => rw [qf] at z1; exact stuck_no z1
        · exact stuck_no z1
      | _ => simp only [q] at z1; exact stuck_no z1
  | _ => exact stuck_no z1
end
section
variable {T : Tab} {C : Cl} {F : Fns} {k : Nat} {sc : Scope} {N : List Str} {X : Cx} {W : WX}
/-- len of an instance of an own class -/
def rLen (K : PySem.W.Frag) (C : Cl) (F : Fns) (y f : Nat) : List V → Hp → VK → Prop := fun xs H Q => ∃ a dx gs ρ h i, xs = [.ref a] ∧ H a = some (.ins (C.at_ y) dx gs) ∧ RelH K C ρ H h ∧ Rep K C ρ H (.obj i) (.ref a) ∧ Post K C (Rep K C) ρ H (lenX (F.fn f [.obj i] h)) Q (fun _ _ _ => False)
theorem run_fnI {CX : CXT} {kk : Nat} {ff : Addr} {fd : FuncData} {ps : List Str} {sp : Sp} {E : L2.St → XK} {pins : List (Addr × Obj)} {σ : St} {H : Hp} {s : Shared} {Q : VK} {us : List Value} {vs : List V} (F : FnOk X.prog X.w X.K X.mg X.base CX kk ff fd ps sp) (hr : Room kk X.A.in1) (hb : Binds X.K fd ps []) (hx : PassesAt CX X σ (E σ))
    (I : Inv X pins σ H s) (r : Vals vs us) (h : sp vs H Q (E σ)) : wpAny (model X.prog X.w) X.A.in1 (call (.ref ff) us) (EP X pins σ Q) X.xe s := by
  have hl : us.length = ps.length := by rw [← r.length]; exact F.len _ _ _ _ h
  have b := hb s us I.kIn (by rw [List.append_nil]; exact hl)
  rw [List.append_nil] at b
  refine wpAny_call (codeAny_mono (F.run X.A.in1 X.stack s H ⟨us, []⟩ us vs Q (E σ) hr I.env0.in1 b r h) fun r s' hq => ?_)
  cases r with
  | error e => exact hx pins H s e s' I hq
  | ok fl =>
    cases fl with
    | ret u => exact I.after hq
    | next => exact False.elim hq
    | brk => exact False.elim hq
    | cont => exact False.elim hq
theorem call_lenO (c : Ctx T C F k sc N X) {y f : Nat} (hf : (y, ("__len__" : Str), f) ∈ T.meths) : CallR X (.builtin "len") (rLen X.K C F y f) := by
  intro pins s σ H xs us Q I r hh
  obtain ⟨a, dx, gs, ρ, h, i, rfl, hH, R, r1, z⟩ := hh
  obtain ⟨u, rfl, rx⟩ := vals1 r
  cases rx
  obtain ⟨fa, hc, hm, ⟨fd, ps, kp, bd, G⟩⟩ := c.cls _ _ _ hf
  obtain ⟨mA, J, _⟩ := ins_get I.hok hH
  obtain ⟨od, J, _⟩ := J.look
  refine PySem.Calls.call_function_entry kind_len plain_len entry_len (args_len1 _) ?_
  unfold Builtin.«len»
  refine wpAny_bind (m := oneArg "len" _) (wpAny_pure ?_)
  refine wpAny_bind (m := callSpecial? (.ref a) (PySem.Str.ofString "__len__")) (PySem.W.special_fn I.kIn J hm.at_ (beq_iff_eq.mp hm.fn) ?_)
  refine wpAny_mono (run_fnI (us := [.ref a]) (vs := [.ref a]) (Q := fun v H' => ∃ n : Int, v = .int n ∧ 0 ≤ n ∧ n < 1000000000 ∧ Q (.int n) H') (E := WE W0) G c.room.in1 bd (passAt takes0 σ) I (.cons rfl .nil) ⟨ρ, h, [.obj i], R, Reps.cons r1 Reps.nil, ?_⟩) (fun r s' q => ?_) fun _ _ e => e
  · cases ho : F.fn f [.obj i] h with
    | ok d2 h2 =>
      rw [ho] at z
      cases d2 with
      | int n =>
        unfold lenX at z
        simp only at z
        split at z
        · rename_i hn
          exact fun ρ' H' v f R' rv => ⟨n, rep_int.mp rv, hn.1, hn.2, z ρ' H' (.int n) f R' (rep_int.mpr rfl)⟩
        · exact stuck_no z
      | _ => exact stuck_no z
    | exc x2 h2 => rw [ho] at z; exact stuck_no z
    | stuck => rw [ho] at z; exact stuck_no z
  · obtain ⟨v2, H', I', rv, n, rfl, h0, h1, q⟩ := q
    obtain ⟨t, rfl⟩ := rv
    refine wpAny_bind (wpAny_holding (wpAny_pure ?_))
    refine wpAny_bind (wpAny_letGo ?_)
    show wpAny _ _ (if n < 0 then _ else _) _ _ _
    rw [if_neg (by omega)]
    show wpAny _ _ (if n ≥ 2 ^ 63 then _ else _) _ _ _
    rw [if_neg (by omega)]
    exact wpAny_bind (wpAny_mkInt (wpAny_pure ⟨_, rfl, ⟨.int n, H', I'.tok _, ⟨_, rfl⟩, q⟩⟩))
theorem lenO_pe {o : Expr} {y f : Nat} {q pos : Pos} {A : E} (c : Ctx T C F k sc N X) (hf : (y, ("__len__" : Str), f) ∈ T.meths) (hg : glB sc "len" = true) (h1 : notStar o = true) (hA : PE X o (tE X.K C F W A)) : PE X (.Call (.Name "len" q) [o] [] pos) (tE X.K C F W (.lenO y f A)) := by
  obtain ⟨g1, g2, g3⟩ := c.gl hg
  refine PE.weak (pe_callB (call_lenO c hf) g1 (c.kok.free _ (by decide +kernel)) (by decide +kernel) (pa_cons hA pa_nil (star_of h1)) g3 g2 (star_of h1)) fun σ H Q ⟨ρ, h, en, R, RE, z⟩ => ?_
  rw [evE] at z
  refine ⟨ρ, h, en, R, RE, z.step fun d h1 ρ1 H1 v f1 R1 r1 z1 => ?_⟩
  cases d with
  | obj i =>
    cases q : h1[i]? with
    | none => simp only [q] at z1; exact stuck_no z1
    | some o =>
      cases o with
      | ins y' fs =>
        simp only [q] at z1
        split at z1
        · rename_i hy; subst hy
          obtain ⟨a, ha, rfl⟩ := rep_obj.mp r1
          obtain ⟨dx, gs, hH, kv⟩ := R1.at_ i a _ ha q
          refine ⟨a, dx, gs, ρ1, h1, i, rfl, hH, R1, r1, ?_⟩
          cases qf : F.fn f [.obj i] h1 with
          | ok d2 h2 =>
            rw [qf] at z1
            unfold lenX at z1 ⊢
            cases d2 with
            | int n =>
              simp only at z1 ⊢
              split
              · rename_i hn; rw [if_pos hn] at z1; exact z1
              · rename_i hn; rw [if_neg hn] at z1; exact stuck_no z1
            | _ => exact stuck_no z1
          | exc x2 h2 => rw [qf] at z1; exact stuck_no z1
          | stuck => rw [qf] at z1; exact stuck_no z1
        · exact stuck_no z1
      | _ => simp only [q] at z1; exact stuck_no z1
  | _ => exact stuck_no z1
end
/-! ### the step's further words -/
section
variable {T : Tab} {C : Cl} {F : Fns} {k : Nat} {sc : Scope} {N : List Str} {X : Cx} {W : WX} {f : Expr → E → Bool} {g : List Expr → Es → Bool} {e : Expr} {A : E}
theorem okW_pe (c : Ctx T C F k sc N X) (tk : Takes X W) (ih : ∀ e A, f e A = true → PE X e (tE X.K C F W A)) (h : okW T sc f g e A = true) : PE X e (tE X.K C F W A) := by
  have hu : X.A.units + 65 < cLine := by have := c.room.un; omega
  unfold okW at h
  split at h
  · split at h
    · simp only [Bool.and_eq_true, decide_eq_true_eq, Bool.not_eq_true'] at h
      obtain ⟨⟨⟨h1, h2⟩, h3⟩, h4⟩ := h
      subst h1
      exact nin_pe c.hP c.hW (by omega) h2 (ih _ _ h3) (ih _ _ h4)
    · cases h
  · split at h
    · simp only [Bool.and_eq_true, decide_eq_true_eq, Bool.not_eq_true'] at h
      obtain ⟨⟨⟨⟨h1, h2⟩, h3⟩, h4⟩, h5⟩ := h
      subst h1
      exact neT_pe c (List.contains_iff_mem.mp h2) h3 (ih _ _ h4) (ih _ _ h5)
    · cases h
  · split at h
    · simp only [Bool.and_eq_true] at h
      obtain ⟨⟨h1, h2⟩, h3⟩ := h
      exact nget_pe c.hP c.hW (by omega) h1 (ih _ _ h2) (ih _ _ h3)
    · cases h
  · split at h
    · exact nnew_pe c.hP c.hW
    · cases h
  · split at h
    · exact tnew_pe c.hP c.hW
    · cases h
  · split at h
    · simp only [Bool.and_eq_true] at h
      exact d1_pe c.hP c.hW (by omega) (ih _ _ h.1) (ih _ _ h.2)
    · cases h
  · split at h
    · simp only [Bool.and_eq_true, decide_eq_true_eq] at h
      obtain ⟨rfl, h1⟩ := h
      exact rev_pe (ih _ _ h1)
    · cases h
  · split at h
    · simp only [Bool.and_eq_true] at h
      exact slH_pe (ih _ _ h.1) (ih _ _ h.2)
    · cases h
  · split at h
    · simp only [Bool.and_eq_true] at h
      exact slT_pe (ih _ _ h.1) (ih _ _ h.2)
    · cases h
  · split at h
    · simp only [Bool.and_eq_true] at h
      obtain ⟨⟨⟨⟨⟨h1, h2⟩, h3⟩, h4⟩, h5⟩, h6⟩ := h
      exact callS_pe c tk (List.contains_iff_mem.mp h1) h2 h3 h4 (ih _ _ h5) (stars_pa ih h6)
    · cases h
  · split at h
    · simp only [Bool.and_eq_true] at h
      exact call0_pe c tk (List.contains_iff_mem.mp h.1) h.2
    · cases h
  · split at h
    · simp only [Bool.and_eq_true, decide_eq_true_eq] at h
      exact lstS_pe (stars_pa ih h.2)
    · cases h
  · split at h
    · simp only [Bool.and_eq_true] at h
      obtain ⟨⟨h1, h2⟩, h3⟩ := h
      exact cprop_pe c h2 (List.contains_iff_mem.mp h1) (ih _ _ h3)
    · cases h
  · split at h
    · simp only [Bool.and_eq_true, decide_eq_true_eq] at h
      obtain ⟨⟨⟨⟨h1, h2⟩, h3⟩, h4⟩, h5⟩ := h
      subst h1
      exact lenO_pe c (List.contains_iff_mem.mp h2) h3 h4 (ih _ _ h5)
    · cases h
  · split at h
    · simp only [Bool.and_eq_true, decide_eq_true_eq] at h
      obtain ⟨⟨⟨⟨⟨h1, h2⟩, h3⟩, h4⟩, h5⟩, h6⟩ := h
      subst h1 h2
      exact lrange_pe c h3 h4 h5 (ih _ _ h6)
    · cases h
  · cases h
theorem okW_pt (c : Ctx T C F k sc N X) (ih : ∀ e A, f e A = true → PE X e (tE X.K C F W A)) (h : okW T sc f g e A = true) : plainT e = true ∨ PT X e (tT X.K C F W A) := by
  have hu : X.A.units + 65 < cLine := by have := c.room.un; omega
  unfold okW at h
  split at h
  · split at h
    · simp only [Bool.and_eq_true, decide_eq_true_eq, Bool.not_eq_true'] at h
      obtain ⟨⟨⟨h1, h2⟩, h3⟩, h4⟩ := h
      subst h1
      exact .inr (nin_pt c.hP c.hW (by omega) h2 (ih _ _ h3) (ih _ _ h4))
    · cases h
  · split at h
    · simp only [Bool.and_eq_true, decide_eq_true_eq, Bool.not_eq_true'] at h
      obtain ⟨⟨⟨⟨h1, h2⟩, h3⟩, h4⟩, h5⟩ := h
      subst h1
      exact .inr (neT_pt c (List.contains_iff_mem.mp h2) h3 (ih _ _ h4) (ih _ _ h5))
    · cases h
  all_goals first | (split at h <;> first | exact .inl rfl | (cases h; done)) | cases h
end
end Mi

set_option Elab.async false
set_option linter.all false
set_option maxRecDepth 100000
set_option maxHeartbeats 2000000
/-! Mi8: the theorem for expressions. -/
namespace Mi
open PySem L2
section
variable {T : Tab} {C : Cl} {F : Fns} {k : Nat} {sc : Scope} {N : List Str} {X : Cx} {W : WX}
/-- what a step of expressions shows -/
structure Okn (T : Tab) (C : Cl) (F : Fns) (sc : Scope) (N : List Str) (X : Cx) (W : WX) (n : Nat) : Prop where
  e : ∀ e A, okE T F.gl sc N n e A = true → PE X e (tE X.K C F W A)
  es : ∀ es As, okEs T F.gl sc N n es As = true → PA X es (tAs X.K C F W As)
theorem saleF_t {a b : Str} : (saleF a b).lookup ("taker" : Str) = some (.str a) := by
  unfold saleF
  rw [lookup_putF, if_neg (by decide +kernel), lookup_putF, if_pos rfl]
theorem saleF_f {a b : Str} : (saleF a b).lookup ("favoured" : Str) = some (.str b) := by
  unfold saleF
  rw [lookup_putF, if_pos rfl]
/-- the classes whose instances are read here: plain, and no class attribute of a field's name -/
theorem call_pe {f : Nat} {e : Expr} {es : List Expr} {x : Str} {q pos : Pos} {A : E} {As : Es} (c : Ctx T C F k sc N X) (tk : Takes X W) (hf : (x, f) ∈ T.fns) (hg : glB sc x = true) (h1 : notStar e = true) (h2 : noStars es = true)
    (hA : PE X e (tE X.K C F W A)) (hAs : PA X es (tAs X.K C F W As)) :
    PE X (.Call (.Name x q) (e :: es) [] pos) (tE X.K C F W (.call f (.cons A As))) ∧ PE X (.Call (.Name x q) (e :: es) [] pos) (tE X.K C F W (.callP f (.cons A As))) := by
  have pa : PA X (e :: es) (tAs X.K C F W (.cons A As)) := PA.weak (pa_cons hA hAs (star_of h1)) fun σ H Q => tAs_cons
  obtain ⟨g1, g2, g3⟩ := c.gl hg
  obtain ⟨a, hm, ⟨fd, ps, kp, bd, G⟩⟩ := c.fns x f hf
  have pe := pe_callS (pos := pos) (p := q) G (c.room.mono (Nat.le_succ _)) g1 hm kp bd (fun σ => passAt tk σ) pa g2 (star_of h1) (noStars_any h2)
  constructor
  · refine PE.weak pe fun σ H Q ⟨ρ, h, en, R, RE, z⟩ => ?_
    rw [evE] at z
    exact ⟨ρ, h, en, R, RE, z.step fun ds h1 ρ1 H1 vs f1 R1 r1 z1 => ⟨ρ1, h1, ds, R1, r1, z1⟩⟩
  · refine PE.weak pe fun σ H Q ⟨ρ, h, en, R, RE, z⟩ => ?_
    rw [evE] at z
    refine ⟨ρ, h, en, R, RE, z.step fun ds h1 ρ1 H1 vs f1 R1 r1 z1 => ?_⟩
    split at z1
    · rename_i ds' hp
      exact ⟨[], [], ds', RelH.nil, frzs_ok R1 hp r1, call_apart R1 z1⟩
    · exact stuck_no z1
theorem fld_pe {o : Expr} {f : Str} {pos : Pos} {A : E} (c : Ctx T C F k sc N X) (hs : T.sl = true) (h1 : notSuper o = true) (hA : PE X o (tE X.K C F W A)) : PE X (.Attribute o f pos) (tE X.K C F W (.fld A f)) := by
  refine PE.weak (pe_fld hA (base_of h1)) fun σ H Q ⟨ρ, h, en, R, RE, z⟩ => ?_
  rw [evE] at z
  refine ⟨ρ, h, en, R, RE, z.step fun d h1 ρ1 H1 v f1 R1 r1 z1 => ?_⟩
  obtain ⟨d2, e1, z2⟩ := ofO_post z1
  cases d with
  | sale a b =>
    obtain ⟨p, dx, rfl, hH, _⟩ := rep_sale.mp r1
    simp only [fldI] at e1
    split at e1
    · rename_i hf; subst hf; cases e1
      exact ⟨p, C.sale, dx, _, _, rfl, hH, (c.kok.sale hs).cl, (c.kok.sale hs).nT, saleF_t, z2.ok_ R1 (rep_str.mpr rfl)⟩
    · split at e1
      · rename_i hf; subst hf; cases e1
        exact ⟨p, C.sale, dx, _, _, rfl, hH, (c.kok.sale hs).cl, (c.kok.sale hs).nF, saleF_f, z2.ok_ R1 (rep_str.mpr rfl)⟩
      · cases e1
  | _ => cases e1
theorem kvs_look {K : PySem.W.Frag} {ρ : List Addr} {H : Hp} {f : Str} {d : D} {fs : List (Str × D)} {gs : List (Str × V)} (kv : KVs K C ρ H fs gs) (e : fs.lookup f = some d) : ∃ v, gs.lookup f = some v ∧ Rep K C ρ H d v := by
  induction kv with
  | nil => cases e
  | @cons p q l m pq _ ih =>
    obtain ⟨g, d⟩ := p
    obtain ⟨g', v⟩ := q
    obtain ⟨rfl, rv⟩ := pq
    simp only [List.lookup] at e ⊢
    cases hb : (f == g) with
    | true => rw [hb] at e; cases e; exact ⟨v, rfl, rv⟩
    | false => rw [hb] at e; exact ih e
theorem kvs_none {K : PySem.W.Frag} {ρ : List Addr} {H : Hp} {f : Str} {fs : List (Str × D)} {gs : List (Str × V)} (kv : KVs K C ρ H fs gs) (e : (fs.lookup f).isNone = true) : gs.lookup f = none := by
  induction kv with
  | nil => rfl
  | @cons p q l m pq _ ih =>
    obtain ⟨g, d⟩ := p
    obtain ⟨g', v⟩ := q
    obtain ⟨rfl, rv⟩ := pq
    simp only [List.lookup] at e ⊢
    cases hb : (f == g) with
    | true => rw [hb] at e; cases e
    | false => rw [hb] at e; exact ih e
theorem fldC_pe {o : Expr} {f : Str} {pos : Pos} {A : E} {y : Nat} (c : Ctx T C F k sc N X) (h1 : notSuper o = true) (hf : (y, f) ∈ T.flds) (hA : PE X o (tE X.K C F W A)) : PE X (.Attribute o f pos) (tE X.K C F W (.fldC y A f)) := by
  refine PE.weak (pe_fld hA (base_of h1)) fun σ H Q ⟨ρ, h, en, R, RE, z⟩ => ?_
  rw [evE] at z
  refine ⟨ρ, h, en, R, RE, z.step fun d h1 ρ1 H1 v f1 R1 r1 z1 => ?_⟩
  obtain ⟨d2, e1, z2⟩ := ofO_post z1
  cases d with
  | obj i =>
    cases q : h1[i]? with
    | none => simp only [fldCI, q] at e1; cases e1
    | some o =>
      simp only [fldCI, q] at e1
      cases o with
      | ins y' fs =>
        dsimp only at e1
        split at e1
        · rename_i hy; subst hy
          obtain ⟨a, ha, rfl⟩ := rep_obj.mp r1
          obtain ⟨dx, gs, hH, kv⟩ := R1.at_ i a _ ha q
          obtain ⟨t1, t2⟩ := c.flds _ hf
          obtain ⟨v, l1, l2⟩ := kvs_look kv e1
          exact ⟨a, C.at_ y', dx, gs, v, rfl, hH, t1, t2, l1, z2.ok_ R1 l2⟩
        · cases e1
      | _ => cases e1
  | _ => cases e1
def isBl (F : Fns) (e : E) : Prop := ∀ en h d h', evE F e en h = .ok d h' → ∃ b, d = .bl b
theorem isBl_cmp {o : Cop} {a b : E} : isBl F (.cmp o a b) := fun en h d h' e => by
  rw [evE] at e
  cases h1 : evE F a en h with
  | ok x h1' =>
    rw [h1] at e; simp only [Out.bind_ok] at e
    cases h2 : evE F b en h1' with
    | ok y h2' =>
      rw [h2] at e; simp only [Out.bind_ok] at e
      cases h3 : cmpI o x y h2' with
      | none => rw [h3] at e; cases e
      | some k => rw [h3] at e; cases e; exact ⟨k, rfl⟩
    | _ => rw [h2] at e; cases e
  | _ => rw [h1] at e; cases e
theorem isBl_eqS {f : Nat} {a b : E} : isBl F (.eqS f a b) := fun en h d h' e => by
  rw [evE] at e
  cases h1 : evE F a en h with
  | ok x h1' =>
    rw [h1] at e; simp only [Out.bind_ok] at e
    cases h2 : evE F b en h1' with
    | ok y h2' =>
      rw [h2] at e; simp only [Out.bind_ok] at e
      split at e
      · split at e
        · split at e
          · cases e; exact ⟨_, rfl⟩
          · cases e
        · cases e
      · cases e
    | _ => rw [h2] at e; cases e
  | _ => rw [h1] at e; cases e
theorem isBl_chain {o p : Cop} {a b c : E} : isBl F (.chain o p a b c) := fun en h d h' e => by
  rw [evE] at e
  cases h1 : evE F a en h with
  | ok x h1' =>
    rw [h1] at e; simp only [Out.bind_ok] at e
    cases h2 : evE F b en h1' with
    | ok y h2' =>
      rw [h2] at e; simp only [Out.bind_ok] at e
      cases h3 : cmpI o x y h2' with
      | none => rw [h3] at e; cases e
      | some k =>
        rw [h3] at e
        simp only [ofO, Out.bind_ok] at e
        cases k with
        | false => cases e; exact ⟨false, rfl⟩
        | true =>
          simp only at e
          cases h4 : evE F c en h2' with
          | ok w h4' =>
            rw [h4] at e; simp only [Out.bind_ok] at e
            cases h5 : cmpI p y w h4' with
            | none => rw [h5] at e; cases e
            | some k => rw [h5] at e; cases e; exact ⟨k, rfl⟩
          | _ => rw [h4] at e; cases e
    | _ => rw [h2] at e; cases e
  | _ => rw [h1] at e; cases e
theorem isBl_isN {a : E} : isBl F (.isN a) := fun en h d h' e => by
  rw [evE] at e
  cases h1 : evE F a en h with
  | ok x h1' => rw [h1] at e; cases e; exact ⟨_, rfl⟩
  | _ => rw [h1] at e; cases e
theorem isBl_notN {a : E} : isBl F (.notN a) := fun en h d h' e => by
  rw [evE] at e
  cases h1 : evE F a en h with
  | ok x h1' => rw [h1] at e; cases e; exact ⟨_, rfl⟩
  | _ => rw [h1] at e; cases e
theorem tT_bl {K : PySem.W.Frag} {e : E} {σ : St} {H : Hp} {Q : Bool → Hp → Prop} (hb : isBl F e) (z : tT K C F W e σ H Q) : tE K C F W e σ H fun x H' => ∃ k, x = .bl k ∧ Q k H' := by
  obtain ⟨ρ, h, en, R, RE, p⟩ := z
  refine ⟨ρ, h, en, R, RE, ?_⟩
  unfold evT at p
  cases h1 : evE F e en h with
  | ok d h' =>
    obtain ⟨b, rfl⟩ := hb en h d h' h1
    rw [h1] at p
    intro ρ1 H1 v f1 R1 r1
    cases rep_bl.mp r1
    exact ⟨b, rfl, p ρ1 H1 b f1 R1 rfl⟩
  | exc x h' => rw [h1] at p; exact p
  | stuck => rw [h1] at p; exact p
theorem cmp_conv {A B : E} {p : Cop} {σ : St} {H : Hp} {Q : VK} (z : tE X.K C F W (.cmp p A B) σ H Q) : tOp (rC X.K p) (tE X.K C F W A) (tE X.K C F W B) σ H Q := by
  obtain ⟨ρ, h, en, R, RE, z⟩ := z
  rw [evE] at z
  refine ⟨ρ, h, en, R, RE, z.step fun d1 h1 ρ1 H1 v1 f1 R1 r1 z1 => ?_⟩
  refine ⟨ρ1, h1, en, R1, RE.mono f1, z1.step fun d2 h2 ρ2 H2 v2 f2 R2 r2 z2 => ?_⟩
  obtain ⟨b, e1, z3⟩ := ofO_post (R := REq) (Post.step (R := REq) (Q := fun _ _ => True) z2 fun _ _ _ _ _ _ _ _ _ => trivial)
  rw [e1] at z2
  exact cmp_ok R2 (r1.mono f2) r2 e1 (bl_end R2 z2)
theorem non_dec {K : PySem.W.Frag} {ρ : List Addr} {H : Hp} {d : D} {v : V} (r : Rep K C ρ H d v) : decide (v = V.non) = isNon d := by
  cases d with
  | non => cases rep_non.mp r; rfl
  | bl b => cases rep_bl.mp r; rfl
  | int b => cases rep_int.mp r; rfl
  | str b => cases rep_str.mp r; rfl
  | tup b => obtain ⟨p, vs, rfl, _⟩ := rep_tup.mp r; rfl
  | lsF b => obtain ⟨p, vs, rfl, _⟩ := rep_lsF.mp r; rfl
  | sale a b => obtain ⟨p, vs, rfl, _⟩ := rep_sale.mp r; rfl
  | obj b => obtain ⟨p, _, rfl⟩ := rep_obj.mp r; rfl
  | adr b => cases rep_adr.mp r; rfl
theorem isN_conv {A : E} {σ : St} {H : Hp} {Q : VK} (z : tE X.K C F W (.isN A) σ H Q) : tIsN (tE X.K C F W A) σ H Q := by
  obtain ⟨ρ, h, en, R, RE, z⟩ := z
  rw [evE] at z
  refine ⟨ρ, h, en, R, RE, z.step fun d1 h1 ρ1 H1 v1 f1 R1 r1 z1 => ?_⟩
  rw [non_dec r1]
  exact bl_end R1 z1
theorem notN_conv {A : E} {σ : St} {H : Hp} {Q : VK} (z : tE X.K C F W (.notN A) σ H Q) : tNotN (tE X.K C F W A) σ H Q := by
  obtain ⟨ρ, h, en, R, RE, z⟩ := z
  rw [evE] at z
  refine ⟨ρ, h, en, R, RE, z.step fun d1 h1 ρ1 H1 v1 f1 R1 r1 z1 => ?_⟩
  rw [non_dec r1]
  exact bl_end R1 z1
theorem chain_conv {A B D : E} {p p' : Cop} {σ : St} {H : Hp} {Q : VK} (z : tE X.K C F W (.chain p p' A B D) σ H Q) : tChain (rC X.K p) (rC X.K p') (tE X.K C F W A) (tE X.K C F W B) (tE X.K C F W D) σ H Q := by
  obtain ⟨ρ, h, en, R, RE, z⟩ := z
  rw [evE] at z
  refine ⟨ρ, h, en, R, RE, z.step fun d1 h1 ρ1 H1 v1 f1 R1 r1 z1 => ?_⟩
  refine ⟨ρ1, h1, en, R1, RE.mono f1, z1.step fun d2 h2 ρ2 H2 v2 f2 R2 r2 z2 => ?_⟩
  obtain ⟨b, e1, z3⟩ := ofO_post (R := REq) (Post.step (R := REq) (Q := fun _ _ => True) z2 fun _ _ _ _ _ _ _ _ _ => trivial)
  rw [e1] at z2
  refine cmp_ok R2 (r1.mono f2) r2 e1 ⟨b, rfl, ?_⟩
  cases b with
  | false =>
    rw [if_neg Bool.false_ne_true]
    exact bl_end R2 z2
  | true =>
    rw [if_pos rfl]
    refine ⟨ρ2, h2, en, R2, (RE.mono f1).mono f2, Post.step (o := evE F _ en h2) z2 fun d3 h3 ρ3 H3 v3 f3 R3 r3 z3 => ?_⟩
    obtain ⟨b, e3, z4⟩ := ofO_post (R := REq) (Post.step (R := REq) (Q := fun _ _ => True) z3 fun _ _ _ _ _ _ _ _ _ => trivial)
    rw [e3] at z3
    exact cmp_ok R3 (r2.mono f3) r3 e3 (bl_end R3 z3)
theorem evT_not {A : E} {en : En} {h : List O} : evT F (.not A) en h = (evT F A en h).bind fun c h => .ok (!c) h := by
  unfold evT
  rw [evE]
  cases h1 : evE F A en h with
  | ok d h' =>
    simp only [Out.bind_ok]
    cases h2 : truI d h' with
    | none => rfl
    | some b => rfl
  | exc x h' => rfl
  | stuck => rfl
theorem evT_and {A B : E} {en : En} {h : List O} : evT F (.and A B) en h = (evT F A en h).bind fun c h => if c = true then evT F B en h else .ok false h := by
  unfold evT
  rw [evE]
  cases h1 : evE F A en h with
  | ok d h' =>
    simp only [Out.bind_ok]
    cases h2 : truI d h' with
    | none => rfl
    | some b => cases b with
      | true => rfl
      | false => simp [ofO, h2]
  | exc x h' => rfl
  | stuck => rfl
theorem evT_or {A B : E} {en : En} {h : List O} : evT F (.or A B) en h = (evT F A en h).bind fun c h => if c = true then .ok true h else evT F B en h := by
  unfold evT
  rw [evE]
  cases h1 : evE F A en h with
  | ok d h' =>
    simp only [Out.bind_ok]
    cases h2 : truI d h' with
    | none => rfl
    | some b => cases b with
      | true => simp [ofO, h2]
      | false => rfl
  | exc x h' => rfl
  | stuck => rfl
theorem evT_ite {c A B : E} {en : En} {h : List O} : evT F (.ite c A B) en h = (evT F c en h).bind fun k h => if k = true then evT F A en h else evT F B en h := by
  unfold evT
  rw [evE]
  cases h1 : evE F c en h with
  | ok d h' =>
    simp only [Out.bind_ok]
    cases h2 : truI d h' with
    | none => rfl
    | some b => cases b <;> rfl
  | exc x h' => rfl
  | stuck => rfl
theorem okEs_nil {n : Nat} {As : Es} (h : okEs T F.gl sc N n [] As = true) : As = .nil := by
  cases n with
  | zero => cases h
  | succ n => cases As with
    | nil => rfl
    | cons _ _ => simp [okEs] at h
    | star _ _ => simp [okEs] at h
/-- the sale's own == -/
def rOwn (K : PySem.W.Frag) (C : Cl) (F : Fns) (f : Nat) : R2 := fun x y H Q => ∃ ρ h a b d, RelH K C ρ H h ∧ Rep K C ρ H (.sale a b) x ∧ Rep K C ρ H d y ∧ (tyI .str d h).isSome = true ∧ Post K C (Rep K C) ρ H (match F.fn f [.sale a b, d] h with
  | .ok (.bl b) h => .ok (.bl b) h
  | _ => .stuck) Q (fun _ _ _ => False)
theorem ty_of {ρ : List Addr} {H : Hp} {h : List O} {d : D} {v : V} {u : Value} {pins : List (Addr × Obj)} {σ : St} {s : Shared} (S : SaleK X.K C) (I : Inv X pins σ H s) (R : RelH X.K C ρ H h) (r : Rep X.K C ρ H d v) (rv : RelV v u) (e : (tyI .str d h).isSome = true) :
    ∃ tb, PySem.W.Looks (model X.prog X.w) s.heap (typeOf u) tb ∧ PySem.W.notFirst X.K C.sale tb = true := by
  have lk : ∀ {p : Addr} {o : Obj}, s.heap.get? p = some o → PySem.W.Looks (model X.prog X.w) s.heap (typeOf (.ref p)) o.cls := fun {p o} z => (PySem.W.Looks.ld z).andThen .now
  have ll : ∀ {p : Addr} {vs : List V}, SqL X.K H p vs → PySem.W.Looks (model X.prog X.w) s.heap (typeOf (.ref p)) (.type "list") := fun {p vs} z => by
    obtain ⟨its, _, pl, _⟩ := I.list z
    obtain ⟨o, ho, hc, _⟩ := pl.isList
    rw [← hc]; exact lk ho
  have lt : ∀ {p : Addr} {vs : List V}, SqT X.K H p vs → PySem.W.Looks (model X.prog X.w) s.heap (typeOf (.ref p)) (.type "tuple") := fun {p vs} z => by
    obtain ⟨its, _, pl, _⟩ := I.tuple z
    obtain ⟨o, ho, hc, _⟩ := pl
    rw [← hc]; exact lk ho
  cases d with
  | non => cases rep_non.mp r; cases rv; exact ⟨_, .of_pure (r := .type "NoneType") rfl, S.nf _ (by decide)⟩
  | bl b => cases rep_bl.mp r; cases rv; exact ⟨_, .of_pure (r := .type "bool") rfl, S.nf _ (by decide)⟩
  | int b => cases rep_int.mp r; obtain ⟨t, rfl⟩ := rv; exact ⟨_, .of_pure (r := .type "int") rfl, S.nf _ (by decide)⟩
  | str b => cases rep_str.mp r; obtain ⟨t, rfl⟩ := rv; exact ⟨_, .of_pure (r := .type "str") rfl, S.nf _ (by decide)⟩
  | tup ds => obtain ⟨p, vs, rfl, z, _⟩ := rep_tup.mp r; cases rv; exact ⟨_, lt z.sq, S.nf _ (by decide)⟩
  | lsF ds => obtain ⟨p, vs, rfl, z, _⟩ := rep_lsF.mp r; cases rv; exact ⟨_, ll z.sq, S.nf _ (by decide)⟩
  | adr b => cases e
  | sale a b =>
    obtain ⟨p, dx, rfl, hH, _⟩ := rep_sale.mp r
    cases rv
    obtain ⟨mA, J, _⟩ := ins_get I.hok hH
    obtain ⟨od, J, _⟩ := J.look
    exact ⟨_, J.type, by simp [PySem.W.notFirst]⟩
  | obj i =>
    cases q : h[i]? with
    | none => simp only [tyI, q] at e; cases e
    | some o =>
      cases o with
      | lst ds => obtain ⟨a, vs, _, rfl, hH, _⟩ := obj_lst R q r; cases rv; exact ⟨_, ll (SqL.of hH), S.nf _ (by decide)⟩
      | _ => simp only [tyI, q] at e; cases e
theorem eqS_op (c : Ctx T C F k sc N X) (hsl : T.sl = true) {f : Nat} (hf : f ∈ T.eqF) : ∃ sp : R2, OpR X (compareOp .Eq) sp ∧ sp = rOwn X.K C F f := by
  refine ⟨_, ?_, rfl⟩
  intro pins s σ H x y v u Q I rx ry ⟨ρ, h, a, b, d, R, r1, r2, ty, z⟩
  obtain ⟨fa, hs, hi, ⟨fd, ps, kp, bd, G⟩⟩ := c.eqs f hf
  obtain ⟨p, dx, rfl, hH, _⟩ := rep_sale.mp r1
  cases rx
  obtain ⟨mA, J, _⟩ := ins_get I.hok hH
  obtain ⟨od, J, _⟩ := J.look
  obtain ⟨m, hF⟩ := I.fr
  obtain ⟨tb, hb, hn⟩ := ty_of (c.kok.sale hsl) I R r2 ry ty
  show wpAny (model X.prog X.w) X.A (richCompare .Eq (.ref p) u) (EP X pins σ Q) X.xe s
  refine PySem.W.cmp_K (op := .Eq) (tb := tb) c.room.units0 hF I.ok.mod.kin J hb hn hs hi ?_
  refine wpAny_mono (run_fnS (us := [.ref p, u]) (vs := [.ref p, y]) (Q := fun v H' => ∃ b, v = .bl b ∧ Q (.bl b) H') (E := WE W0) G (c.room.mono (Nat.le_succ _)) bd (passAt takes0 σ) I (.cons rfl (.cons ry .nil)) ⟨ρ, h, [.sale a b, d], R, Reps.cons r1 (Reps.cons r2 Reps.nil), ?_⟩) (fun r s' q => ?_) fun _ _ e => e
  · cases ho : F.fn f [.sale a b, d] h with
    | ok d2 h2 =>
      rw [ho] at z
      cases d2 with
      | bl b2 => exact fun ρ' H' v f R' rv => ⟨b2, rep_bl.mp rv, z ρ' H' (.bl b2) f R' (rep_bl.mpr rfl)⟩
      | _ => exact stuck_no z
    | exc x2 h2 => rw [ho] at z; exact stuck_no z
    | stuck => rw [ho] at z; exact stuck_no z
  · obtain ⟨v2, H', I', rv, b2, rfl, q⟩ := q
    cases rv
    exact ⟨.bl b2, H', I', rfl, q⟩
theorem eqS_conv {f : Nat} {A B : E} {sp : R2} {σ : St} {H : Hp} {Q : VK} (hs : sp = rOwn X.K C F f) (z : tE X.K C F W (.eqS f A B) σ H Q) : tOp sp (tE X.K C F W A) (tE X.K C F W B) σ H Q := by
  subst hs
  obtain ⟨ρ, h, en, R, RE, z⟩ := z
  rw [evE] at z
  refine ⟨ρ, h, en, R, RE, z.step fun d1 h1 ρ1 H1 v1 f1 R1 r1 z1 => ?_⟩
  refine ⟨ρ1, h1, en, R1, RE.mono f1, z1.step fun d2 h2 ρ2 H2 v2 f2 R2 r2 z2 => ?_⟩
  cases d1 with
  | sale a b =>
    dsimp only at z2
    split at z2
    · rename_i ht
      refine ⟨ρ2, h2, a, b, d2, R2, r1.mono f2, r2, ht, ?_⟩
      cases ho : F.fn f [.sale a b, d2] h2 with
      | ok d3 h3 =>
        rw [ho] at z2
        cases d3 with
        | bl b3 => exact z2
        | _ => exact stuck_no z2
      | exc x3 h3 => rw [ho] at z2; exact stuck_no z2
      | stuck => rw [ho] at z2; exact stuck_no z2
    · exact stuck_no z2
  | _ => exact stuck_no z2
theorem new_lsF {K : PySem.W.Frag} {ρ : List Addr} {H : Hp} {h : List O} {Q : VK} {Wh : Value → Option Addr → Hp → Prop} {ds : List D} {vs : List V} (R : RelH K C ρ H h) (r : Reps K C ρ H ds vs) (p : Post K C (Rep K C) ρ H (.ok (.lsF ds) h) Q Wh) :
    ∀ q, H q = none → Q (.ref q) (upd H q (.lst vs)) := fun q hq =>
  p ρ _ _ (Fr.new hq) (R.new hq) (rep_lsF.mpr ⟨q, vs, rfl, .inl ⟨.inl upd_same, R.notin hq⟩, r.mono (Fr.new hq)⟩)
theorem sprop_pe {o : Expr} {p f : Str} {pos : Pos} {A : E} (c : Ctx T C F k sc N X) (hs : T.sl = true) (h1 : notSuper o = true) (hf : (p, f) ∈ T.props) (hA : PE X o (tE X.K C F W A)) : PE X (.Attribute o p pos) (tE X.K C F W (.sprop p f A)) := by
  obtain ⟨pp, g, fd, hp, bd, G⟩ := (c.prs _ hf).ex
  have noE : Passes (L2.CX X.prog X.w) X.nox (fun _ _ _ => False) := fun pins σ H s e s' I q => by
    obtain ⟨a, B, H', cls, d, _, _, _, _, _, _, _, z⟩ := q
    exact z.elim
  refine PE.weak (pe_prop (dvs := []) (ds := []) hA (c.kok.sale hs).cl hp G c.room bd .nil noE (base_of h1)) fun σ H Q ⟨ρ, h, en, R, RE, z⟩ => ?_
  rw [evE] at z
  refine ⟨ρ, h, en, R, RE, z.step fun d h1 ρ1 H1 v f1 R1 r1 z1 => ?_⟩
  cases q : F.pr d f with
  | none => rw [q] at z1; exact stuck_no z1
  | some d2 =>
    have hs : ∃ a b, d = .sale a b := c.prD _ _ _ q
    obtain ⟨a, b, rfl⟩ := hs
    obtain ⟨pp, dx, rfl, hH, _⟩ := rep_sale.mp r1
    refine ⟨pp, dx, _, rfl, hH, ρ1, h1, .sale a b, _, rfl, R1, r1, ?_⟩
    rw [q] at z1 ⊢
    exact z1
theorem keys_some : ∀ {keys : List (Option Expr)} {ks : List Str}, keysB keys ks = true → keys.all (·.isSome) = true
  | [], _, _ => rfl
  | none :: _, _, h => by simp [keysB] at h
  | some e :: keys, [], h => by cases e <;> simp [keysB] at h
  | some e :: keys, k :: ks, h => by
    have : keysB keys ks = true := by
      cases e with
      | Constant c _ _ =>
        cases c with
        | str s => simp only [keysB, Bool.and_eq_true] at h; exact h.2
        | _ => simp [keysB] at h
      | _ => simp [keysB] at h
    simp [keys_some this]
theorem dget_pe {keys : List (Option Expr)} {vals : List Expr} {dp ap pos : Pos} {a b : Expr} {ks : List Str} {As : Es} {B D : E} {p : Expr → E → Bool} (hp : ∀ v A, p v A = true → PE X v (tE X.K C F W A)) (hu : X.A.units + 1 < cLine)
    (h1 : keysB keys ks = true) (h2 : ks.length = vals.length) (h2b : keys.length = vals.length) (h3 : ks.Nodup) (h4 : ks.length ≤ 15) (h5 : ks ≠ []) (h6 : okVs p vals As = true) (hl : (Pos.endLine ap == Pos.line pos) = true) (sa : notStar a = true) (sb : notStar b = true)
    (hB : PE X a (tE X.K C F W B)) (hD : PE X b (tE X.K C F W D)) : PE X (.Call (.Attribute (.Dict keys vals dp) "get" ap) [a, b] [] pos) (tE X.K C F W (.dgetS ks As B D)) := by
  obtain ⟨s1, s2⟩ := starsTwo (env := X.env) sa sb
  refine PE.weak (pe_dget2 hu (pe_disp (pps_ok hp h1 h6 h2) (keys_some h1) h2b (fun z => by rw [z] at h2b; exact h5 (List.length_eq_zero_iff.mp (by rw [h2, ← h2b]; rfl))) (by rw [h2b, ← h2]; exact h4)) hB hD ⟨rfl, by rw [s1]; rfl, hl, by rw [s1]; rfl⟩) fun σ H Q ⟨ρ, h, en, R, RE, z⟩ => ?_
  rw [evE] at z
  refine disp_at h6 h2 h3 h4 R RE z (fun q ds h1' ρ1 H2 vs _ hlen R2 RE2 nq hq _ ⟨H1, r1⟩ z1 => ⟨q, rfl, .inl ⟨_, .inl hq⟩, ?_⟩)
  split at z1
  · rename_i hf
    refine ⟨ρ1, h1', _, R2, RE2, z1.step fun y h3' ρ3 H3 vy f3 R3 ry z3 => ⟨ρ3, h3', _, R3, RE2.mono f3, z3.step fun x h4' ρ4 H4 vx f4 R4 rx z4 => ?_⟩⟩
    cases y with
    | str s =>
      cases rep_str.mp ry
      have hq4 : H4 q = some (.dK (kvsOf ks vs)) := (f3.trans f4).keep q _ hq nq
      refine ⟨_, DGet.k (k := .inr s) hq4, ?_⟩
      rw [val_of]
      have lk := look2 (s := s) r1 hf.1
      dsimp only at z4
      cases e : (ks.zip ds).lookup s with
      | some d =>
        rw [e] at lk z4
        obtain ⟨v, l1, l2, l3⟩ := lk
        rw [l1]
        exact z4.ok_ R4 (flat_repD (List.all_eq_true.mp hf.2 d l3) l2)
      | none =>
        rw [e] at lk z4
        rw [show (ks.zip vs).lookup s = none from lk]
        exact z4.ok_ R4 rx
    | _ => exact stuck_no z4
  · exact stuck_no z1
theorem didx_pe {keys : List (Option Expr)} {vals : List Expr} {dp pos : Pos} {a : Expr} {ks : List Str} {As : Es} {B : E} {p : Expr → E → Bool} (hp : ∀ v A, p v A = true → PE X v (tE X.K C F W A)) (hu : X.A.units + 1 < cLine)
    (h1 : keysB keys ks = true) (h2 : ks.length = vals.length) (h2b : keys.length = vals.length) (h3 : ks.Nodup) (h4 : ks.length ≤ 15) (h5 : ks ≠ []) (h6 : okVs p vals As = true) (hs : notSlice a = true)
    (hB : PE X a (tE X.K C F W B)) : PE X (.Subscript (.Dict keys vals dp) a pos) (tE X.K C F W (.didxS ks As B)) := by
  refine PE.weak (pe_dget hu (pe_disp (pps_ok hp h1 h6 h2) (keys_some h1) h2b (fun z => by rw [z] at h2b; exact h5 (List.length_eq_zero_iff.mp (by rw [h2, ← h2b]; rfl))) (by rw [h2b, ← h2]; exact h4)) hB (fun ov iv => ix_of hs ov iv)) fun σ H Q ⟨ρ, h, en, R, RE, z⟩ => ?_
  rw [evE] at z
  refine disp_at h6 h2 h3 h4 R RE z (fun q ds h1' ρ1 H2 vs _ hlen R2 RE2 nq hq _ ⟨H1, r1⟩ z1 => ?_)
  split at z1
  · rename_i hf
    refine ⟨ρ1, h1', _, R2, RE2, z1.step fun y h3' ρ3 H3 vy f3 R3 ry z3 => ?_⟩
    cases y with
    | str s =>
      cases rep_str.mp ry
      have hq3 : H3 q = some (.dK (kvsOf ks vs)) := f3.keep q _ hq nq
      have lk := look2 (s := s) r1 hf.1
      dsimp only at z3
      cases e : (ks.zip ds).lookup s with
      | some d =>
        rw [e] at lk z3
        obtain ⟨v, l1, l2, l3⟩ := lk
        exact ⟨q, v, rfl, by rw [← l1, ← val_of]; exact DGet.k (k := .inr s) hq3, z3.ok_ R3 (flat_repD (List.all_eq_true.mp hf.2 d l3) l2)⟩
      | none => rw [e] at z3; exact stuck_no z3
    | _ => exact stuck_no z3
  · exact stuck_no z1
/-- run apart, on some of the names' values -/
theorem frzE_ok {K : PySem.W.Frag} {ρ : List Addr} {H : Hp} {h : List O} {σ : St} {en : En} (R : RelH K C ρ H h) (RE : RelE K C ρ H σ en) : ∀ {vs : List Nat} {acc en2 : En}, RelE K C [] H σ acc → frzE h en vs acc = some en2 → RelE K C [] H σ en2
  | [], acc, en2, r, e => by cases e; exact r
  | i :: is, acc, en2, r, e => by
    rw [frzE] at e
    split at e
    · rename_i d hd
      split at e
      · rename_i d' hd'
        obtain ⟨v, h1, h2⟩ := RE.at_ i d hd
        refine frzE_ok R RE ⟨by simp [r.len], fun j x q => ?_⟩ e
        by_cases hj : j = i
        · subst hj
          have hl : j < acc.length := by
            have := (List.getElem?_eq_some_iff.mp q).1
            simpa using this
          rw [List.getElem?_set_self hl] at q
          cases q
          exact ⟨v, h1, frz_ok R 4 hd' h2⟩
        · rw [List.getElem?_set_ne (Ne.symm hj)] at q
          exact r.at_ j x q
      · cases e
    · cases e
theorem backs_ok {K : PySem.W.Frag} {ρ ρ1 : List Addr} {H1 : Hp} {g : D → Option D} (hg : ∀ {d d' : D} {v : V}, g d = some d' → Rep K C ρ1 H1 d v → Rep K C ρ H1 d' v) : ∀ {ds l : List D} {vs : List V}, optAll (ds.map g) = some l → Reps K C ρ1 H1 ds vs → Reps K C ρ H1 l vs
  | [], l, vs, e, r => by
    cases e
    rw [Reps] at r; subst r; exact Reps.nil
  | d :: ds, l, vs, e, r => by
    rw [Reps] at r
    obtain ⟨v, us, rfl, a, b⟩ := r
    rw [List.map_cons] at e
    cases q : g d with
    | none => rw [q, optAll] at e; cases e
    | some d' =>
      rw [q, optAll] at e
      cases q2 : optAll (ds.map g) with
      | none => rw [q2] at e; cases e
      | some l2 =>
        rw [q2] at e
        cases e
        exact Reps.cons (hg q a) (backs_ok hg q2 b)
theorem backA_ok {K : PySem.W.Frag} {ρ ρ1 : List Addr} {H H1 : Hp} {h h1 : List O} (R : RelH K C ρ H h) (R' : RelH K C ρ H1 h) (R1 : RelH K C ρ1 H1 h1) (f1 : Fr [] H ρ1 H1) : ∀ (n : Nat) {d d' : D} {v : V}, backA n h1 d = some d' → Rep K C ρ1 H1 d v → Rep K C ρ H1 d' v
  | 0, _, _, _, e, _ => by cases e
  | n + 1, d, d', v, e, r => by
    unfold backA at e
    split at e
    · rename_i hp; cases e; exact rep_back R' hp r
    · split at e
      · rename_i ds
        split at e
        · rename_i l hl
          cases e
          obtain ⟨p, vs, rfl, t, z⟩ := rep_tup.mp r
          refine rep_tup.mpr ⟨p, vs, rfl, t.imp (fun q => ⟨q.1, ?_⟩) id, backs_ok (fun e r => backA_ok R R' R1 f1 n e r) hl z⟩
          rcases q.1 with q | ⟨o, q⟩
          · exact notOurs R' q (fun z => z)
          · exact notOurs R' q (fun z => z)
        · cases e
      · rename_i i
        split at e
        · rename_i ds hds
          split at e
          · rename_i l hl
            cases e
            obtain ⟨a, vs, ha, rfl, hH, rs⟩ := obj_lst R1 hds r
            refine rep_lsF.mpr ⟨a, vs, rfl, .inl ⟨.inl hH, ?_⟩, backs_ok (fun e r => backA_ok R R' R1 f1 n e r) hl rs⟩
            obtain ⟨new, e, hn⟩ := f1.ext
            have : a ∈ new := by
              have := List.mem_of_getElem? ha
              rw [e] at this; simpa using this
            exact R.notin (hn a this)
          · cases e
        · cases e
      · cases e
theorem ap_post {K : PySem.W.Frag} {ρ : List Addr} {H : Hp} {h : List O} {o : Out D} {Q : VK} {Wh Wh2 : Value → Option Addr → Hp → Prop} (R : RelH K C ρ H h) (p : Post K C (Rep K C) ρ H (bring o h) Q Wh) : Post K C (Rep K C) [] H o Q Wh2 := by
  unfold bring at p
  cases o with
  | stuck => exact p
  | exc x h1 => exact stuck_no p
  | ok d h1 =>
    dsimp only at p
    split at p
    · rename_i d' hd
      intro ρ1 H1 v f1 R1 r1
      obtain ⟨g, R'⟩ := apart_fr R f1
      refine p ρ H1 v g R' ?_
      exact backA_ok R R' R1 f1 4 hd r1
    · exact stuck_no p
theorem ap_conv {vs : List Nat} {A : E} {σ : St} {H : Hp} {Q : VK} (z : tE X.K C F W (.apE vs A) σ H Q) : tE X.K C F W A σ H Q := by
  obtain ⟨ρ, h, en, R, RE, z⟩ := z
  rw [evE] at z
  split at z
  · rename_i en2 e
    have r0 : RelE X.K C [] H σ (List.replicate en.length none) := ⟨by simp [RE.len], fun i d e => by
      rw [List.getElem?_replicate] at e
      split at e <;> cases e⟩
    exact ⟨[], [], en2, RelH.nil, frzE_ok R RE r0 e, ap_post R z⟩
  · exact stuck_no z
/-- the theorem's step -/
theorem okn_step (c : Ctx T C F k sc N X) (tk : Takes X W) (n : Nat) (ih : Okn T C F sc N X W n) (ihA : ∀ (sc2 : Scope) (Y : Cx), Ctx T C F k sc2 N Y → Okn T C F sc2 N Y W0 n ∧ ∀ e A, okE T F.gl sc2 N n e A = true → PT Y e (tT Y.K C F W0 A)) (iht : ∀ e A, okE T F.gl sc N n e A = true → PT X e (tT X.K C F W A)) : Okn T C F sc N X W (n + 1) := by
  have hu : X.A.units + 65 < cLine := by have := c.room.un; omega
  refine ⟨fun e A h => ?_, fun es As h => ?_⟩
  · unfold okE at h
    rw [Bool.or_eq_true] at h
    rcases h with h | h
    · exact okW_pe c tk (fun e A => ih.e e A) h
    split at h
    · -- what is not reached
      refine ⟨fun pins s σ H Q I ⟨ρ, h, en, R, RE, z⟩ => ?_⟩
      rw [evE] at z
      · exact False.elim (stuck_no z)
      all_goals (intros; first | contradiction | (intro z; cases z))
    · simp only [Bool.and_eq_true] at h
      exact PE.weak (ih.e _ _ h.2) fun σ H Q => ap_conv
    · -- a local name
      simp only [Bool.and_eq_true, decide_eq_true_eq, Bool.not_eq_true'] at h
      obtain ⟨⟨⟨h1, h2⟩, h3⟩, h4⟩ := h
      refine PE.weak (pe_var (by rw [c.nm]; exact h1) (c.vis h2) h3 h4) fun σ H Q ⟨ρ, h, en, R, RE, z⟩ => ?_
      rw [evE] at z
      split at z
      · rename_i d hd
        obtain ⟨v, e1, r1⟩ := RE.at_ _ _ hd
        exact ⟨v, e1, z.ok_ R r1⟩
      · exact stuck_no z
    · -- a constant of the module
      simp only [Bool.and_eq_true] at h
      obtain ⟨h1, h2⟩ := h
      split at h1
      · rename_i p hp
        simp only [decide_eq_true_eq] at h1
        obtain ⟨g1, g2, g3⟩ := c.gl h2
        obtain ⟨v, u, m1, m2, m3⟩ := c.kok.glob p (List.mem_of_getElem? hp)
        rw [h1] at m1
        refine PE.weak (pe_glob g1 m1 m2 g2) fun σ H Q ⟨ρ, h, en, R, RE, z⟩ => ?_
        rw [evE, hp] at z
        exact z.ok_ R (m3 ρ H)
      · cases h1
    · simp only [decide_eq_true_eq] at h; subst h
      refine PE.weak pe_int fun σ H Q ⟨ρ, h, en, R, RE, z⟩ => ?_
      rw [evE] at z
      exact z.ok_ R (rep_int.mpr rfl)
    · simp only [decide_eq_true_eq] at h; subst h
      refine PE.weak pe_bl fun σ H Q ⟨ρ, h, en, R, RE, z⟩ => ?_
      rw [evE] at z
      exact z.ok_ R (rep_bl.mpr rfl)
    · simp only [decide_eq_true_eq] at h; subst h
      refine PE.weak pe_str fun σ H Q ⟨ρ, h, en, R, RE, z⟩ => ?_
      rw [evE] at z
      exact z.ok_ R (rep_str.mpr rfl)
    · refine PE.weak pe_non fun σ H Q ⟨ρ, h, en, R, RE, z⟩ => ?_
      rw [evE] at z
      exact z.ok_ R (rep_non.mpr rfl)
    · -- two places
      simp only [Bool.and_eq_true, decide_eq_true_eq] at h
      obtain ⟨⟨h1, h2⟩, h3⟩ := h
      subst h1
      refine PE.weak (pe_op (op_B _) (ih.e _ _ h2) (ih.e _ _ h3)) fun σ H Q ⟨ρ, h, en, R, RE, z⟩ => ?_
      rw [evE] at z
      refine ⟨ρ, h, en, R, RE, z.step fun d1 h1 ρ1 H1 v1 f1 R1 r1 z1 => ?_⟩
      refine ⟨ρ1, h1, en, R1, RE.mono f1, z1.step fun d2 h2 ρ2 H2 v2 f2 R2 r2 z2 => ?_⟩
      exact bin_ok R2 (r1.mono f2) r2 z2
    · -- minus
      refine PE.weak (pe_un un_neg (ih.e _ _ h)) fun σ H Q ⟨ρ, h, en, R, RE, z⟩ => ?_
      rw [evE] at z
      refine ⟨ρ, h, en, R, RE, z.step fun d1 h1 ρ1 H1 v1 f1 R1 r1 z1 => ?_⟩
      split at z1
      · cases rep_int.mp r1
        exact ⟨_, rfl, int_end R1 z1⟩
      · exact stuck_no z1
    · -- not
      refine PE.weak (pe_notT (ih.e _ _ h)) fun σ H Q ⟨ρ, h, en, R, RE, z⟩ => ?_
      rw [evE] at z
      refine ⟨ρ, h, en, R, RE, z.step fun d1 h1 ρ1 H1 v1 f1 R1 r1 z1 => ?_⟩
      split at z1
      · rename_i b hb
        exact ⟨b, tru_rep R1 r1 hb, bl_end R1 z1⟩
      · exact stuck_no z1
    · exact pe_one (ih.e _ _ h)
    · exact pe_one (ih.e _ _ h)
    · -- and
      simp only [Bool.and_eq_true] at h
      refine PE.weak (pe_andT (ih.e _ _ h.1) (ih.e _ _ h.2)) fun σ H Q ⟨ρ, h, en, R, RE, z⟩ => ?_
      rw [evE] at z
      refine ⟨ρ, h, en, R, RE, z.step fun d1 h1 ρ1 H1 v1 f1 R1 r1 z1 => ?_⟩
      split at z1
      · rename_i hb
        exact ⟨true, tru_rep R1 r1 hb, by rw [if_pos rfl]; exact ⟨ρ1, h1, en, R1, RE.mono f1, z1⟩⟩
      · rename_i hb
        exact ⟨false, tru_rep R1 r1 hb, by rw [if_neg Bool.false_ne_true]; exact z1.ok_ R1 r1⟩
      · exact stuck_no z1
    · -- or
      simp only [Bool.and_eq_true] at h
      refine PE.weak (pe_orT (ih.e _ _ h.1) (ih.e _ _ h.2)) fun σ H Q ⟨ρ, h, en, R, RE, z⟩ => ?_
      rw [evE] at z
      refine ⟨ρ, h, en, R, RE, z.step fun d1 h1 ρ1 H1 v1 f1 R1 r1 z1 => ?_⟩
      split at z1
      · rename_i hb
        exact ⟨true, tru_rep R1 r1 hb, by rw [if_pos rfl]; exact z1.ok_ R1 r1⟩
      · rename_i hb
        exact ⟨false, tru_rep R1 r1 hb, by rw [if_neg Bool.false_ne_true]; exact ⟨ρ1, h1, en, R1, RE.mono f1, z1⟩⟩
      · exact stuck_no z1
    · -- a comparison
      split at h
      · simp only [Bool.and_eq_true, decide_eq_true_eq, Bool.not_eq_true'] at h
        obtain ⟨⟨⟨h1, h2⟩, h3⟩, h4⟩ := h
        subst h1
        exact PE.weak (pe_cmpR (op_C hu _) (ih.e _ _ h3) (ih.e _ _ h4) h2) fun σ H Q => cmp_conv
      · simp only [Bool.and_eq_true, decide_eq_true_eq, Bool.not_eq_true'] at h
        obtain ⟨⟨⟨⟨⟨h0, h1⟩, h2⟩, h3⟩, h4⟩, h5⟩ := h
        subst h1
        obtain ⟨sp, ho, cv⟩ := eqS_op c h0 (List.contains_iff_mem.mp h2)
        exact PE.weak (pe_cmpR ho (ih.e _ _ h4) (ih.e _ _ h5) h3) fun σ H Q => eqS_conv cv
      · split at h
        · exact PE.weak (pe_cmp (pc_isN (ih.e _ _ h)) rfl) fun σ H Q => isN_conv
        · cases h
      · split at h
        · exact PE.weak (pe_cmp (pc_notN (ih.e _ _ h)) rfl) fun σ H Q => notN_conv
        · cases h
      · cases h
    · -- a chain
      simp only [Bool.and_eq_true, decide_eq_true_eq, Bool.not_eq_true'] at h
      obtain ⟨⟨⟨⟨⟨h1, h2⟩, h3⟩, h4⟩, h5⟩, h6⟩ := h
      subst h1 h2
      exact PE.weak (pe_chain (op_C hu _) (op_C hu _) (ih.e _ _ h4) (ih.e _ _ h5) (ih.e _ _ h6) h3) fun σ H Q => chain_conv
    · -- a if c else b
      simp only [Bool.and_eq_true] at h
      obtain ⟨⟨h1, h2⟩, h3⟩ := h
      refine PE.weak (pe_ifExp (iht _ _ h1) (ih.e _ _ h2) (ih.e _ _ h3)) fun σ H Q ⟨ρ, h, en, R, RE, z⟩ => ?_
      rw [evE] at z
      refine ⟨ρ, h, en, R, RE, branch z fun b h1 ρ1 H1 f1 R1 z1 => ?_⟩
      cases b with
      | true => rw [if_pos rfl] at z1 ⊢; exact ⟨ρ1, h1, en, R1, RE.mono f1, z1⟩
      | false => rw [if_neg Bool.false_ne_true] at z1 ⊢; exact ⟨ρ1, h1, en, R1, RE.mono f1, z1⟩
    · -- a tuple
      refine PE.weak (pe_tup (ih.es _ _ h)) fun σ H Q ⟨ρ, h, en, R, RE, z⟩ => ?_
      rw [evE] at z
      refine ⟨ρ, h, en, R, RE, z.step fun ds h1 ρ1 H1 vs f1 R1 r1 z1 => ?_⟩
      split at z1
      · rename_i hl
        exact ⟨by rw [r1.length]; exact limOk hl, new_tup R1 r1 z1⟩
      · exact stuck_no z1
    · -- a list
      split at h
      · refine PE.weak (pe_lst (ih.es _ _ h)) fun σ H Q ⟨ρ, h, en, R, RE, z⟩ => ?_
        rw [evE] at z
        refine ⟨ρ, h, en, R, RE, z.step fun ds h1 ρ1 H1 vs f1 R1 r1 z1 => ?_⟩
        split at z1
        · rename_i hl
          exact ⟨by rw [r1.length]; exact limOk hl, new_lst R1 r1 z1⟩
        · exact stuck_no z1
      · refine PE.weak (pe_lst (ih.es _ _ h)) fun σ H Q ⟨ρ, h, en, R, RE, z⟩ => ?_
        rw [evE] at z
        refine ⟨ρ, h, en, R, RE, z.step fun ds h1 ρ1 H1 vs f1 R1 r1 z1 => ?_⟩
        split at z1
        · rename_i hl
          exact ⟨by rw [r1.length]; exact limOk hl, new_lsF R1 r1 z1⟩
        · exact stuck_no z1
      · cases h
    · -- a field, a property
      split at h
      · simp only [Bool.and_eq_true, decide_eq_true_eq] at h
        obtain ⟨⟨⟨h0, h1⟩, h2⟩, h3⟩ := h
        subst h1
        exact fld_pe c h0 h2 (ih.e _ _ h3)
      · simp only [Bool.and_eq_true, decide_eq_true_eq] at h
        obtain ⟨⟨⟨h1, h2⟩, h3⟩, h4⟩ := h
        subst h1
        exact fldC_pe c h3 (List.contains_iff_mem.mp h2) (ih.e _ _ h4)
      · simp only [Bool.and_eq_true, decide_eq_true_eq] at h
        obtain ⟨⟨⟨⟨h0, h1⟩, h2⟩, h3⟩, h4⟩ := h
        subst h1
        exact sprop_pe c h0 h3 (List.contains_iff_mem.mp h2) (ih.e _ _ h4)
      · cases h
    · -- by place
      split at h
      · simp only [Bool.and_eq_true] at h
        obtain ⟨⟨h1, h2⟩, h3⟩ := h
        refine PE.weak (pe_ix (ix_list.or ix_tup) (ih.e _ _ h2) (ih.e _ _ h3) (ix_of h1)) fun σ H Q ⟨ρ, h, en, R, RE, z⟩ => ?_
        rw [evE] at z
        refine ⟨ρ, h, en, R, RE, z.step fun d1 h1 ρ1 H1 v1 f1 R1 r1 z1 => ?_⟩
        refine ⟨ρ1, h1, en, R1, RE.mono f1, z1.step fun d2 h2 ρ2 H2 v2 f2 R2 r2 z2 => ?_⟩
        obtain ⟨d, e1, z3⟩ := ofO_post z2
        exact idx_ok R2 (r1.mono f2) r2 e1 fun w rw_ => z3.ok_ R2 rw_
      · split at h
        · simp only [Bool.and_eq_true, decide_eq_true_eq] at h
          obtain ⟨⟨⟨⟨⟨⟨⟨⟨h1, h2⟩, h3⟩, h4⟩, h5⟩, h6⟩, h7⟩, h8⟩, h9⟩ := h
          exact didx_pe (fun v A => ih.e v A) (by omega) h2 h3 h4 h5 h6 h7 h8 h1 (ih.e _ _ h9)
        · cases h
      · cases h
    · -- a comprehension
      simp only [Bool.and_eq_true, compB, decide_eq_true_eq, List.all_eq_true] at h
      obtain ⟨⟨⟨⟨⟨⟨⟨⟨b1, b2⟩, nd⟩, h2⟩, h3⟩, h4⟩, h5⟩, h6⟩, h7⟩ := h
      refine PE.weak (pe_lc (te := tE X.K C F W0 _) (tt := tTk X.K C F _ _) (g := gT X.K _) c.calm (by rw [c.nm]; exact nd) (pi_seq (ih.e _ _ h5)) (by rw [c.nm, c.hsc]; exact blkOk_by b1) (fun s H L cl fp => tgL_pg (X := X.blk s H _ (compEnvC _ cl L X.env) fp) (c.blk (s := s) (H := H) (L := L) (cl := cl) (fp := fp)).hsc c.nm nd c.calm h2) (fun s H L cl fp => ifs_ok h6 (ihA _ (X.blk s H _ (compEnvC _ cl L X.env) fp) (c.blk (s := s) (H := H) (L := L) (cl := cl) (fp := fp))).2) (fun s H L cl fp => (ihA _ (X.blk s H _ (compEnvC _ cl L X.env) fp) (c.blk (s := s) (H := H) (L := L) (cl := cl) (fp := fp))).1.e _ _ h7) (folded' h4)) fun σ H Q z => ?_
      rw [b2]
      exact comp_conv (fun j hj => List.contains_iff_mem.mp (h3 j hj)) z
    · -- over range(n)
      simp only [Bool.and_eq_true, compB, decide_eq_true_eq] at h
      obtain ⟨⟨⟨⟨⟨⟨⟨⟨⟨⟨b1, b2⟩, nd⟩, h2⟩, h3⟩, h4⟩, h5⟩, h6⟩, h7⟩, h8⟩, h9⟩ := h
      subst h4
      obtain ⟨g1, g2, g3⟩ := c.gl h5
      refine PE.weak (pe_lc (te := tE X.K C F W0 _) (tt := tTk X.K C F _ _) (g := gT X.K _) c.calm (by rw [c.nm]; exact nd) (pi_range1 g1 (c.kok.free _ (by decide +kernel)) (pa_cons (ih.e _ _ h7) pa_nil (star_of h6)) (by rw [star_of h6]; rfl)) (by rw [c.nm, c.hsc]; exact blkOk_by b1) (fun s H L cl fp => tgL_pg (X := X.blk s H _ (compEnvC _ cl L X.env) fp) (c.blk (s := s) (H := H) (L := L) (cl := cl) (fp := fp)).hsc c.nm nd c.calm h2) (fun s H L cl fp => ifs_ok h8 (ihA _ (X.blk s H _ (compEnvC _ cl L X.env) fp) (c.blk (s := s) (H := H) (L := L) (cl := cl) (fp := fp))).2) (fun s H L cl fp => (ihA _ (X.blk s H _ (compEnvC _ cl L X.env) fp) (c.blk (s := s) (H := H) (L := L) (cl := cl) (fp := fp))).1.e _ _ h9)) fun σ H Q z => ?_
      rw [b2]
      exact comp1_conv (List.contains_iff_mem.mp h3) z
    · -- over range(a, b)
      simp only [Bool.and_eq_true, compB, decide_eq_true_eq] at h
      obtain ⟨⟨⟨⟨⟨⟨⟨⟨⟨⟨⟨⟨b1, b2⟩, nd⟩, h2⟩, h3⟩, h4⟩, h5⟩, h6⟩, h6b⟩, h7⟩, h7b⟩, h8⟩, h9⟩ := h
      have h3 := List.all_eq_true.mp h3
      obtain ⟨g1, g2, g3⟩ := c.gl h5
      refine PE.weak (pe_lc (te := tE X.K C F W0 _) (tt := tTk X.K C F _ _) (g := gT X.K _) c.calm (by rw [c.nm]; exact nd) (pi_two h4 g1 (c.kok.free _ (by decide +kernel)) (c.kok.free _ (by decide +kernel)) h6 h6b (ih.e _ _ h7) (ih.e _ _ h7b)) (by rw [c.nm, c.hsc]; exact blkOk_by b1) (fun s H L cl fp => tgL_pg (X := X.blk s H _ (compEnvC _ cl L X.env) fp) (c.blk (s := s) (H := H) (L := L) (cl := cl) (fp := fp)).hsc c.nm nd c.calm h2) (fun s H L cl fp => ifs_ok h8 (ihA _ (X.blk s H _ (compEnvC _ cl L X.env) fp) (c.blk (s := s) (H := H) (L := L) (cl := cl) (fp := fp))).2) (fun s H L cl fp => (ihA _ (X.blk s H _ (compEnvC _ cl L X.env) fp) (c.blk (s := s) (H := H) (L := L) (cl := cl) (fp := fp))).1.e _ _ h9)) fun σ H Q z => ?_
      rw [b2]
      exact comp2_conv (fun j hj => List.contains_iff_mem.mp (h3 j hj)) z
    · -- a method
      split at h
      · simp only [Bool.and_eq_true, decide_eq_true_eq] at h
        obtain ⟨⟨⟨⟨⟨⟨⟨h1, h2⟩, h3⟩, h4⟩, h5⟩, h6⟩, h7⟩, h8⟩ := h
        subst h1
        obtain ⟨a, cl, mt, ⟨fd, ps, kp, bd, G⟩⟩ := c.cls _ _ _ (List.contains_iff_mem.mp h2)
        rename_i as _ _ _ _ _ _ _ _
        cases as with
        | nil =>
          obtain rfl := okEs_nil h8
          exact PE.weak (pe_methS0 (ih.e _ _ h5) cl mt G (c.room.mono (Nat.le_succ _)) bd tk (meth_eq h3 h4 rfl (by decide))) fun σ H Q => meth_conv fun σ H Q => tAs_nil
        | cons e es =>
          have h6' := h6
          simp only [noStars, Bool.and_eq_true] at h6'
          exact PE.weak (pe_methS (ih.e _ _ h5) cl mt G (c.room.mono (Nat.le_succ _)) bd tk (ih.es _ _ h8) (star_of h6'.1) (noStars_any h6'.2) (meth_eq h3 h4 h6 (Nat.lt_of_lt_of_le h7 (by decide)))) fun σ H Q => meth_conv fun σ H Q z => z
      · -- a list's or a text's method
        simp only [Bool.and_eq_true, decide_eq_true_eq] at h
        obtain ⟨⟨⟨⟨h1, h2⟩, h3⟩, h4⟩, h5⟩ := h
        subst h1
        split at h5
        · exact bm_pe0 h5 h2 h3 (ih.e _ _ h4)
        · simp only [Bool.and_eq_true] at h5
          exact bm_pe1 h5.1.1 h2 h3 h5.1.2 (ih.e _ _ h4) (ih.e _ _ h5.2)
        · cases h5
      · -- a dict written out
        split at h
        · simp only [Bool.and_eq_true, decide_eq_true_eq] at h
          obtain ⟨⟨⟨⟨⟨⟨⟨⟨⟨⟨⟨⟨h1, h2⟩, h3⟩, h4⟩, h5⟩, h6⟩, h7⟩, h8⟩, h9⟩, h10⟩, h11⟩, h12⟩, h13⟩ := h
          subst h1
          exact dget_pe (fun v A => ih.e v A) (by omega) h3 h4 h5 h6 h7 h8 h11 h2 h9 h10 (ih.e _ _ h12) (ih.e _ _ h13)
        · cases h
      · cases h
    · -- a class without arguments
      simp only [Bool.and_eq_true] at h
      obtain ⟨g1, g2, g3⟩ := c.gl h.2
      obtain ⟨a, hm, M, ⟨fd, ps, kp, bd, G⟩⟩ := c.mks _ _ _ (List.contains_iff_mem.mp h.1)
      refine PE.weak (pe_makeS0 M G c.room g1 hm bd tk g2) fun σ H Q ⟨ρ, h, en, R, RE, z⟩ => ?_
      rw [evE, evEs] at z
      exact fun x dx hx hdx hne => mk_end R Reps.nil z x dx hx hdx hne
    · -- a call by name
      split at h
      · -- a sale
        simp only [Bool.and_eq_true, decide_eq_true_eq] at h
        obtain ⟨⟨⟨⟨⟨⟨h0, h1⟩, h2⟩, h3⟩, h4⟩, h5⟩, h6⟩ := h
        subst h1
        split at h6
        · obtain ⟨g1, g2, g3⟩ := c.gl h2
          obtain ⟨f, fd, ps, M, bd, G⟩ := (c.sal h0).ex
          have h7 := h4
          simp only [noStars, Bool.and_eq_true] at h7
          refine PE.weak (pe_makeS M G c.room g1 (c.kok.saleG h0) bd tk (pa_cons (ih.e _ _ h5) (pa_cons (ih.e _ _ h6) pa_nil (star_of h7.1)) (star_of h3)) g2 (star_of h3) (noStars_any h4)) fun σ H Q ⟨ρ, h, en, R, RE, z⟩ => ?_
          rw [evE] at z
          refine ⟨ρ, h, en, R, RE, z.step fun d1 h1 ρ1 H1 v1 f1 R1 r1 z1 => ?_⟩
          refine ⟨ρ1, h1, en, R1, RE.mono f1, z1.step fun d2 h2 ρ2 H2 v2 f2 R2 r2 z2 => ?_⟩
          exact fun x dx hx hdx hne => ⟨ρ2, h2, H2, x, dx, d1, d2, v1, v2, Q, rfl, rfl, hx, hdx, hne, R2, r1.mono f2, r2, fun H' q => ⟨rfl, q⟩, z2⟩
        · cases h6
      · -- a class
        simp only [Bool.and_eq_true] at h
        obtain ⟨⟨⟨⟨⟨h1, h2⟩, h3⟩, h4⟩, h5⟩, h6⟩ := h
        obtain ⟨g1, g2, g3⟩ := c.gl h2
        obtain ⟨a, hm, M, ⟨fd, ps, kp, bd, G⟩⟩ := c.mks _ _ _ (List.contains_iff_mem.mp h1)
        have pa := PA.weak (pa_cons (ih.e _ _ h5) (ih.es _ _ h6) (star_of h3)) fun σ H Q => tAs_cons
        refine PE.weak (pe_makeS M G c.room g1 hm bd tk pa g2 (star_of h3) (noStars_any h4)) fun σ H Q ⟨ρ, h, en, R, RE, z⟩ => ?_
        rw [evE] at z
        refine ⟨ρ, h, en, R, RE, z.step fun ds h1 ρ1 H1 vs f1 R1 r1 z1 => ?_⟩
        exact fun x dx hx hdx hne => mk_end R1 r1 z1 x dx hx hdx hne
      · simp only [Bool.and_eq_true] at h
        obtain ⟨⟨⟨⟨⟨h1, h2⟩, h3⟩, h4⟩, h5⟩, h6⟩ := h
        exact (call_pe c tk (List.contains_iff_mem.mp h1) h2 h3 h4 (ih.e _ _ h5) (ih.es _ _ h6)).1
      · simp only [Bool.and_eq_true] at h
        obtain ⟨⟨⟨⟨⟨h1, h2⟩, h3⟩, h4⟩, h5⟩, h6⟩ := h
        exact (call_pe c tk (List.contains_iff_mem.mp h1) h2 h3 h4 (ih.e _ _ h5) (ih.es _ _ h6)).2
      · simp only [Bool.and_eq_true, decide_eq_true_eq] at h
        obtain ⟨⟨⟨⟨⟨h0, h1⟩, h2⟩, h3⟩, h4⟩, h5⟩ := h
        subst h1
        split at h5
        · simp only [Bool.and_eq_true, decide_eq_true_eq] at h5
          exact isi_pe c h2 h3 h5.1 h5.2 (by simpa using h0) (ih.e _ _ h4)
        · cases h5
      · simp only [Bool.and_eq_true, decide_eq_true_eq] at h
        obtain ⟨⟨⟨⟨⟨h1, h2⟩, h3⟩, h4⟩, h5⟩, h6⟩ := h
        exact bf_pe c h1 h2 h3 h4 (ih.e _ _ h5) (ih.es _ _ h6)
      · cases h
    · cases h
  · unfold okEs at h
    split at h
    · exact PA.weak pa_nil fun σ H Q => tAs_nil
    · simp only [Bool.and_eq_true] at h
      obtain ⟨⟨h1, h2⟩, h3⟩ := h
      exact PA.weak (pa_cons (ih.e _ _ h2) (ih.es _ _ h3) (star_of h1)) fun σ H Q => tAs_cons
    · cases h

theorem pw_of {op : BoolOp} {vs : List Expr} {pos : Pos} {t : TT} (h : PT X (.BoolOp op vs pos) t) : PW X (.BoolOp op vs pos) t := ⟨fun wh pins s σ H Q I hq => h.run pins s σ H Q I hq⟩
/-- tests -/
theorem okt_step (c : Ctx T C F k sc N X) (tk : Takes X W) (n : Nat) (iht : ∀ e A, okE T F.gl sc N n e A = true → PT X e (tT X.K C F W A)) (ihe : Okn T C F sc N X W n)
    (ih1 : ∀ e A, okE T F.gl sc N (n + 1) e A = true → PE X e (tE X.K C F W A)) : ∀ e A, okE T F.gl sc N (n + 1) e A = true → PT X e (tT X.K C F W A) := by
  have hu : X.A.units + 65 < cLine := by have := c.room.un; omega
  intro e A h
  have plain : plainT e = true → PT X e (tT X.K C F W A) := fun hp =>
    PT.weak (pt_truth (ih1 e A h) (by cases e <;> first | (intro _; rfl) | cases hp | (rename_i op _ _; cases op <;> first | (intro _; rfl) | cases hp))) fun σ H Q => tT_plain
  unfold okE at h
  rw [Bool.or_eq_true] at h
  rcases h with h | h
  · rcases okW_pt c (fun e A => ihe.e e A) h with q | q
    · exact plain q
    · exact q
  split at h
  all_goals first | exact plain rfl | skip
  · -- what is not reached
    refine ⟨fun pins s σ H Q I ⟨ρ, h, en, R, RE, z⟩ => ?_⟩
    unfold evT at z
    rw [evE] at z
    · exact False.elim (stuck_no z)
    all_goals (intros; first | contradiction | (intro z; cases z))
  · simp only [Bool.and_eq_true] at h
    exact plain h.1
  · -- not
    refine PT.weak (pt_not (iht _ _ h)) fun σ H Q ⟨ρ, h, en, R, RE, z⟩ => ?_
    rw [evT_not] at z
    refine ⟨ρ, h, en, R, RE, z.step fun b h1 ρ1 H1 b' f1 R1 r1 z1 => ?_⟩
    subst r1
    exact z1.ok_ R1 rfl
  · exact (pw_and1 (iht _ _ h)).pt
  · exact (pw_or1 (iht _ _ h)).pt
  · simp only [Bool.and_eq_true] at h
    refine PT.weak (PW.pt (pw_and (iht _ _ h.1) (pw_of (iht _ _ h.2)))) fun σ H Q ⟨ρ, h, en, R, RE, z⟩ => ?_
    · rw [evT_and] at z
      refine ⟨ρ, h, en, R, RE, z.step fun b h1 ρ1 H1 b' f1 R1 r1 z1 => ?_⟩
      subst r1
      cases b with
      | true => rw [if_pos rfl] at z1 ⊢; exact ⟨ρ1, h1, en, R1, RE.mono f1, z1⟩
      | false => rw [if_neg Bool.false_ne_true] at z1 ⊢; exact z1.ok_ R1 rfl
  · simp only [Bool.and_eq_true] at h
    refine PT.weak (PW.pt (pw_or (iht _ _ h.1) (pw_of (iht _ _ h.2)))) fun σ H Q ⟨ρ, h, en, R, RE, z⟩ => ?_
    · rw [evT_or] at z
      refine ⟨ρ, h, en, R, RE, z.step fun b h1 ρ1 H1 b' f1 R1 r1 z1 => ?_⟩
      subst r1
      cases b with
      | true => rw [if_pos rfl] at z1 ⊢; exact z1.ok_ R1 rfl
      | false => rw [if_neg Bool.false_ne_true] at z1 ⊢; exact ⟨ρ1, h1, en, R1, RE.mono f1, z1⟩
  · split at h
    · simp only [Bool.and_eq_true, decide_eq_true_eq, Bool.not_eq_true'] at h
      obtain ⟨⟨⟨h1, h2⟩, h3⟩, h4⟩ := h
      subst h1
      exact PT.weak (pt_cmpR (op_C hu _) (ihe.e _ _ h3) (ihe.e _ _ h4) h2) fun σ H Q z => cmp_conv (tT_bl isBl_cmp z)
    · simp only [Bool.and_eq_true, decide_eq_true_eq, Bool.not_eq_true'] at h
      obtain ⟨⟨⟨⟨⟨h0, h1⟩, h2⟩, h3⟩, h4⟩, h5⟩ := h
      subst h1
      obtain ⟨sp, ho, cv⟩ := eqS_op c h0 (List.contains_iff_mem.mp h2)
      exact PT.weak (pt_cmpR ho (ihe.e _ _ h4) (ihe.e _ _ h5) h3) fun σ H Q z => eqS_conv cv (tT_bl isBl_eqS z)
    · split at h
      · exact PT.weak (pt_cmp (pc_isN (ihe.e _ _ h)) rfl) fun σ H Q z => isN_conv (tT_bl isBl_isN z)
      · cases h
    · split at h
      · exact PT.weak (pt_cmp (pc_notN (ihe.e _ _ h)) rfl) fun σ H Q z => notN_conv (tT_bl isBl_notN z)
      · cases h
    · cases h
  · simp only [Bool.and_eq_true, decide_eq_true_eq, Bool.not_eq_true'] at h
    obtain ⟨⟨⟨⟨⟨h1, h2⟩, h3⟩, h4⟩, h5⟩, h6⟩ := h
    subst h1 h2
    exact PT.weak (pt_chain (op_C hu _) (op_C hu _) (ihe.e _ _ h4) (ihe.e _ _ h5) (ihe.e _ _ h6) h3) fun σ H Q z => chain_conv (tT_bl isBl_chain z)
  · simp only [Bool.and_eq_true] at h
    obtain ⟨⟨h1, h2⟩, h3⟩ := h
    refine PT.weak (pt_ifE (iht _ _ h1) (iht _ _ h2) (iht _ _ h3)) fun σ H Q ⟨ρ, h, en, R, RE, z⟩ => ?_
    rw [evT_ite] at z
    refine ⟨ρ, h, en, R, RE, z.step fun b h1 ρ1 H1 b' f1 R1 r1 z1 => ?_⟩
    subst r1
    cases b with
    | true => rw [if_pos rfl] at z1 ⊢; exact ⟨ρ1, h1, en, R1, RE.mono f1, z1⟩
    | false => rw [if_neg Bool.false_ne_true] at z1 ⊢; exact ⟨ρ1, h1, en, R1, RE.mono f1, z1⟩
  · cases h
theorem okn_gen : ∀ (n : Nat) (sc : Scope) (X : Cx) (W : WX), Ctx T C F k sc N X → Takes X W → Okn T C F sc N X W n ∧ ∀ e A, okE T F.gl sc N n e A = true → PT X e (tT X.K C F W A) := by
  intro n
  induction n with
  | zero => exact fun sc X W c tk => ⟨⟨fun e A h => (by cases h), fun e A h => (by cases h)⟩, fun e A h => (by cases h)⟩
  | succ n ih =>
    intro sc X W c tk
    have i := ih sc X W c tk
    have s := okn_step c tk n i.1 (fun sc2 Y c2 => ih sc2 Y W0 c2 takes0) i.2
    exact ⟨s, okt_step c tk n i.2 i.1 s.e⟩
theorem okn_all (c : Ctx T C F k sc N X) (tk : Takes X W) (n : Nat) : Okn T C F sc N X W n ∧ ∀ e A, okE T F.gl sc N n e A = true → PT X e (tT X.K C F W A) := okn_gen n sc X W c tk
end
end Mi

set_option Elab.async false
set_option linter.all false
set_option maxRecDepth 100000
set_option maxHeartbeats 2000000
/-! Mi9: statements: what is wanted behind one; loops. -/
namespace Mi
open PySem L2

def PostS (K : PySem.W.Frag) (C : Cl) (ρ : List Addr) (H : Hp) (o : OS) (D : Ends) (W : WX) : Prop :=
  match o with
  | .nx en h' => ∀ ρ' H' σ', Fr ρ H ρ' H' → RelH K C ρ' H' h' → RelE K C ρ' H' σ' en → D.nx σ' H'
  | .rt d h' => ∀ ρ' H' v, Fr ρ H ρ' H' → RelH K C ρ' H' h' → Rep K C ρ' H' d v → D.rt v H'
  | .bk en h' => ∀ ρ' H' σ', Fr ρ H ρ' H' → RelH K C ρ' H' h' → RelE K C ρ' H' σ' en → D.bk σ' H'
  | .ex x en h' => ∀ ρ' H' σ' cls dd, Fr ρ H ρ' H' → RelH K C ρ' H' h' → RelE K C ρ' H' σ' en → RepX K C H' x cls dd → W cls dd σ' H'
  | .stuck => False
section
variable (K : PySem.W.Frag) (C : Cl) (F : Fns) (W : WX)
def tS (s : S) : TS := fun D σ H => ∃ ρ h en, RelH K C ρ H h ∧ RelE K C ρ H σ en ∧ PostS K C ρ H (evS F s en h) D W
def tSs (s : Ss) : TS := fun D σ H => ∃ ρ h en, RelH K C ρ H h ∧ RelE K C ρ H σ en ∧ PostS K C ρ H (evSs F s en h) D W
end
section
variable {K : PySem.W.Frag} {C : Cl} {F : Fns} {W : WX} {ρ ρ1 : List Addr} {H H1 : Hp} {h : List O} {en : En} {σ : St} {Dn Dn' : Ends}
theorem PostS.from_ {o : OS} (f : Fr ρ H ρ1 H1) (p : PostS K C ρ H o Dn W) : PostS K C ρ1 H1 o Dn W := by
  cases o with
  | nx en h => exact fun ρ' H' s g => p ρ' H' s (f.trans g)
  | rt d h => exact fun ρ' H' s g => p ρ' H' s (f.trans g)
  | bk en h => exact fun ρ' H' s g => p ρ' H' s (f.trans g)
  | ex x en h => exact fun ρ' H' s c d g => p ρ' H' s c d (f.trans g)
  | stuck => exact p
theorem noS {P : Prop} (p : PostS K C ρ H .stuck Dn W) : P := False.elim p
/-- an expression, then the rest -/
theorem PostS.of {α β : Type} {R : List Addr → Hp → α → β → Prop} {Q : β → Hp → Prop} {o : Out α} {f : α → List O → OS} (RE : RelE K C ρ H σ en) (p : PostS K C ρ H (OS.of o en f) Dn W)
    (k : ∀ a h1 ρ1 H1 v, Fr ρ H ρ1 H1 → RelH K C ρ1 H1 h1 → RelE K C ρ1 H1 σ en → R ρ1 H1 a v → PostS K C ρ1 H1 (f a h1) Dn W → Q v H1) : Post K C R ρ H o Q (fun cls dd H' => W cls dd σ H') := by
  cases o with
  | ok a h1 => exact fun ρ1 H1 v g r z => k a h1 ρ1 H1 v g r (RE.mono g) z (PostS.from_ g p)
  | exc x h1 => exact fun ρ1 H1 c d g r z => p ρ1 H1 σ c d g r (RE.mono g) z
  | stuck => exact p
theorem PostS.nx_ (R : RelH K C ρ H h) (RE : RelE K C ρ H σ en) (p : PostS K C ρ H (.nx en h) Dn W) : Dn.nx σ H := p ρ H σ (Fr.refl ρ H) R RE
/-- one statement, then the rest -/
theorem PostS.seq {o : OS} {f : En → List O → OS} (p : PostS K C ρ H (o.seq f) Dn W)
    (k : ∀ en1 h1 ρ1 H1 σ1, Fr ρ H ρ1 H1 → RelH K C ρ1 H1 h1 → RelE K C ρ1 H1 σ1 en1 → PostS K C ρ1 H1 (f en1 h1) Dn W → Dn'.nx σ1 H1) (e1 : Dn'.rt = Dn.rt) (e2 : Dn'.bk = Dn.bk) : PostS K C ρ H o Dn' W := by
  cases o with
  | nx en h => exact fun ρ1 H1 σ1 g r e => k en h ρ1 H1 σ1 g r e (PostS.from_ g p)
  | rt d h =>
    unfold PostS
    rw [e1]
    exact p
  | bk en h =>
    unfold PostS
    rw [e2]
    exact p
  | ex x en h => exact p
  | stuck => exact p
/-- one turn of a loop's body -/
def after (K : PySem.W.Frag) (C : Cl) (W : WX) (Dn : Ends) (ρ : List Addr) (H : Hp) (rest : En → List O → OS) : St → Hp → Prop := fun σ' H' => ∃ ρ' h' en', Fr ρ H ρ' H' ∧ RelH K C ρ' H' h' ∧ RelE K C ρ' H' σ' en' ∧ PostS K C ρ' H' (rest en' h') Dn W
theorem PostS.turn {o : OS} {rest : En → List O → OS} (p : PostS K C ρ H (match o with
      | .nx en h => rest en h
      | .bk en h => .nx en h
      | .rt d h => .rt d h
      | .ex x en h => .ex x en h
      | .stuck => .stuck) Dn W) : PostS K C ρ H o { Dn with nx := after K C W Dn ρ H rest, ct := after K C W Dn ρ H rest, bk := Dn.nx } W := by
  cases o with
  | nx en h => exact fun ρ1 H1 σ1 g r e => ⟨ρ1, h, en, g, r, e, PostS.from_ g p⟩
  | rt d h => exact p
  | bk en h => exact p
  | ex x en h => exact p
  | stuck => exact p
end

/-! ### targets -/
def XArg (v : V) : Prop := (∃ y : Str, v = .str y ∧ y.length ≤ 1000) ∨ ∃ i : Int, v = .int i ∧ i.natAbs < 2 ^ 63
/-- a call of the class of the number c makes an exception with these fields -/
def XcCall (X : Cx) (C : Cl) (c : Nat) (ns : List Str) : Prop := ∀ (pins : List (Addr × Obj)) (s : Shared) (σ : St) (H : Hp) (vs : List V) (us : List Value) (Q : XK), Inv X pins σ H s → Vals vs us → vs.length = ns.length → (∀ v ∈ vs, XArg v) →
  (∀ dd H', (∀ b o, H b = some o → H' b = some o) → (∀ b, H' b = none → H b = none) → (ns = [] ∧ dd = none ∨ ∃ d gs, dd = some d ∧ H' d = some (.xd gs) ∧ ∀ f v, (ns.zip vs).lookup f = some v → gs.lookup f = some v) → Q (.ref (C.at_ c)) dd H') →
  wpAny (model X.prog X.w) X.A (call (.ref (C.at_ c)) us) (MkP X pins σ Q) X.xe s
/-- the same wherever it is called -/
def XcAll (P : Program) (K : PySem.W.Frag) (mg : Str → Option Value) (C : Cl) (c : Nat) (ns : List Str) : Prop := ∀ (Y : Cx) (k : Nat), Y.prog = P → Y.K = K → Y.mg = mg → Room k Y.A → XcCall Y C c ns
/-- what a class of exceptions must have for its caught instances to be read and asked -/
structure XcRd (K : PySem.W.Frag) (D : Addr) : Prop where
  cl : (PySem.W.clsIn K D).isSome = true
  hg : PySem.W.findIn K (.ref D) "__getattribute__" = some (some (.builtin "BaseException.__getattribute__"))
  hk : PySem.W.findIn K (.ref D) "__getattr__" = some none
  hs : PySem.W.subIn K (.ref D) (.type "BaseException") = some true
  hd : PySem.W.hasDictIn K D = true
  ha : PySem.W.findIn K (.ref D) "__class__" = some (some (.builtin "object.__class__"))
  hn : PySem.W.specialIn K (.builtin "object.__class__") "__get__" = some (some (.builtin "getset_descriptor.__get__"))
  ht : PySem.W.takesIn K (.builtin "object.__class__") = some true
  hm : PySem.W.mroIn K D (.type "object") = some true
/-- a class's name: of the program, or a built-in one -/
def AskAt (mg : Str → Option Value) (x : Str) (v : Value) : Prop := (mg x = some v ∧ ∃ a, v = .ref a) ∨ (mg x = none ∧ (∃ n, v = .type n) ∧ bootBuiltins x = some v ∧ x ≠ "__name__")
structure CtxS (T : Tab) (C : Cl) (F : Fns) (k : Nat) (sc : Scope) (N : List Str) (X : Cx) : Prop extends Ctx T C F k sc N X where
  nd : N.Nodup
  fnC : ∀ x, sc.names.lookup x = some .cell → X.fn x = true
  own : PassesOwn (model X.prog X.w) X.A X.env X.xe
  stk : X.stack = X.env :: X.outer
  frm : X.env.frame = some X.env.locals
  knd : sc.kind = .function
  xcs : ∀ x c, (x, c) ∈ T.clsN → ∃ ns, F.xc[c]? = some ns ∧ X.mg x = some (.ref (C.at_ c)) ∧ PySem.W.keepIn X.K (.ref (C.at_ c)) = true ∧ XcAll X.prog X.K X.mg C c ns
  xrd : ∀ c, c < F.xc.length → XcRd X.K (C.at_ c) ∧ ∀ f ∈ T.xflds, PySem.W.findIn X.K (.ref (C.at_ c)) f = some none
  ask : ∀ x c, (x, c) ∈ T.ask → ∃ v, AskAt X.mg x v ∧ ∀ c2, c2 < F.xc.length → PySem.W.kitOne X.K (.ref (C.at_ c2)) v = some (F.sub c2 c) ∧ PySem.W.exmOne X.K (.ref (C.at_ c2)) v = some (F.sub c2 c)
def notComp : Expr → Bool
  | .ListComp _ _ _ _ => false
  | .SetComp _ _ _ _ => false
  | .DictComp _ _ _ _ _ => false
  | _ => true
theorem swaps_of {e : Expr} {t : Option Expr} {l : Nat} {env : Env} (h : notComp e = true) : swapsWith e t l env = pure false := by
  cases e <;> first | rfl | cases h
/-- names at places -/
def namesB (sc : Scope) (N : List Str) : List Expr → List Nat → Bool
  | [], [] => true
  | .Name x _ :: ts, i :: is => decide (N[i]? = some x) && locB sc x && namesB sc N ts is
  | _, _ => false
def tgB (sc : Scope) (N : List Str) : Expr → List Nat → Bool
  | .Name x _, [i] => decide (N[i]? = some x) && locB sc x
  | .Tuple ts _ _, i :: j :: is => namesB sc N ts (i :: j :: is)
  | _, _ => false
section
variable {T : Tab} {C : Cl} {F : Fns} {k : Nat} {sc : Scope} {N : List Str} {X : Cx} {W : WX}
theorem CtxS.loc (c : CtxS T C F k sc N X) {x : Str} (h : locB sc x = true) : Loc X.env.scope x ∧ (X.fn x = true ∨ X.env.scope.names.lookup x = some .local) := by
  unfold locB at h
  rw [c.hsc]
  split at h
  · rename_i e; exact ⟨.inl e, .inr e⟩
  · rename_i e; exact ⟨.inr e, .inl (c.fnC x e)⟩
  · cases h
theorem CtxS.name (c : CtxS T C F k sc N X) {x : Str} {i : Nat} {pos : Pos} (h1 : N[i]? = some x) (h2 : locB sc x = true) : PG X (.Name x pos) (gName i) := by
  obtain ⟨a, b⟩ := c.loc h2
  exact pg_name (by rw [c.nm]; exact c.nd) (by rw [c.nm]; exact h1) a b
theorem names_pg (c : CtxS T C F k sc N X) : ∀ {ts : List Expr} {is : List Nat}, namesB sc N ts is = true → PGs X ts (gNames is) ∧ (assignEach ts X.env).length = is.length ∧ (assignEach ts X.env).findIdx? (·.1) = none
  | [], [], _ => ⟨⟨fun pins s σ H vs us Q I r ⟨h1, h2⟩ => pgs_nil.run pins s σ H vs us Q I r ⟨List.length_eq_zero_iff.mp h1, by
      obtain rfl := List.length_eq_zero_iff.mp h1
      exact h2⟩⟩, rfl, rfl⟩
  | .Name x p :: ts, i :: is, h => by
    simp only [namesB, Bool.and_eq_true, decide_eq_true_eq] at h
    obtain ⟨⟨h1, h2⟩, h3⟩ := h
    obtain ⟨g, l, f⟩ := names_pg c h3
    have g1 := pgs_cons (c.name (pos := p) h1 h2) g
    refine ⟨⟨fun pins s σ H vs us Q I r ⟨e, q⟩ => g1.run pins s σ H vs us Q I r ?_⟩, ?_, ?_⟩
    · cases vs with
      | nil => cases e
      | cons v vs =>
        exact ⟨v, vs, rfl, by simpa using e, q⟩
    · show (assignEach ts X.env).length + 1 = _
      rw [l]; rfl
    · show List.findIdx? (·.1) ((false, assign (.Name x p) X.env) :: assignEach ts X.env) = none
      rw [List.findIdx?_cons]
      simp [f]
  | [], _ :: _, h => by cases h
  | _ :: _, [], h => by simp [namesB] at h
  | .BoolOp _ _ _ :: _, _ :: _, h => by cases h
  | .NamedExpr _ _ _ :: _, _ :: _, h => by cases h
  | .BinOp _ _ _ _ :: _, _ :: _, h => by cases h
  | .UnaryOp _ _ _ :: _, _ :: _, h => by cases h
  | .Lambda _ _ _ _ :: _, _ :: _, h => by cases h
  | .IfExp _ _ _ _ :: _, _ :: _, h => by cases h
  | .Dict _ _ _ :: _, _ :: _, h => by cases h
  | .Set _ _ _ :: _, _ :: _, h => by cases h
  | .ListComp _ _ _ _ :: _, _ :: _, h => by cases h
  | .SetComp _ _ _ _ :: _, _ :: _, h => by cases h
  | .DictComp _ _ _ _ _ :: _, _ :: _, h => by cases h
  | .GeneratorExp _ _ _ _ :: _, _ :: _, h => by cases h
  | .Await _ _ :: _, _ :: _, h => by cases h
  | .Yield _ _ :: _, _ :: _, h => by cases h
  | .YieldFrom _ _ :: _, _ :: _, h => by cases h
  | .Compare _ _ _ _ :: _, _ :: _, h => by cases h
  | .Call _ _ _ _ :: _, _ :: _, h => by cases h
  | .FormattedValue _ _ _ _ :: _, _ :: _, h => by cases h
  | .JoinedStr _ _ :: _, _ :: _, h => by cases h
  | .Constant _ _ _ :: _, _ :: _, h => by cases h
  | .Attribute _ _ _ :: _, _ :: _, h => by cases h
  | .Subscript _ _ _ :: _, _ :: _, h => by cases h
  | .Starred _ _ :: _, _ :: _, h => by cases h
  | .List _ _ :: _, _ :: _, h => by cases h
  | .Tuple _ _ _ :: _, _ :: _, h => by cases h
  | .Slice _ _ _ _ :: _, _ :: _, h => by cases h
theorem tg_pg (c : CtxS T C F k sc N X) {t : Expr} {is : List Nat} (h : tgB sc N t is = true) : PG X t (gT X.K is) := by
  unfold tgB at h
  split at h
  · simp only [Bool.and_eq_true, decide_eq_true_eq] at h
    exact ⟨fun pins s σ H v u Q I r z => (c.name h.1 h.2).run pins s σ H v u Q I r z⟩
  · obtain ⟨g, l, f⟩ := names_pg c h
    exact ⟨fun pins s σ H v u Q I r z => (pg_tup c.calm g l f).run pins s σ H v u Q I r z⟩
  · cases h
end
end Mi

set_option Elab.async false
set_option linter.all false
set_option maxRecDepth 100000
set_option maxHeartbeats 2000000
/-! Mi10: a, b = x, y and a, b, c = x, y, z: stored from the right where all are plain names. -/
namespace Mi
open PySem L2 PySem.Spec PyProof.Rows
def bkS (sc : Scope) : ScopeKind := if sc.kind.isAnnotationScope then .function else sc.kind
/-- what the model does with names on the left and as many on the right: none: not told; some none: one after the other; some names: from the right -/
def swF (sc : Scope) (ts vs : List Expr) : Option (Option (List Str)) :=
  if (!(ts.length == 2 || ts.length == 3) || vs.length != ts.length || bkS sc != .function) = true then some none
  else if (vs.any fun | .Starred .. => true | _ => false) = true then some none
  else
    let line := (ts.head?.map (·.pos.line)).getD 0
    let names := ts.filterMap fun
      | .Name id pos => if (sc.names.lookup id == some .local && pos.line == line) = true then some id else none
      | _ => none
    if (names.length != ts.length || names.eraseDups.length != names.length) = true then some none
    else if vs.all (foldedForSure 8) = true then some none
    else if vs.all (constantsAlone 8) = true then none
    else some (some names)
theorem swF_ok {sc : Scope} {ts vs : List Expr} {k k2 : Nat} {p p2 : Pos} {env : Env} {r : Option (List Str)} (hs : env.scope = sc) (h : swF sc ts vs = some r) :
    swappedStores [.Tuple ts k p] (.Tuple vs k2 p2) env = pure r := by
  subst hs
  unfold swF at h
  unfold swappedStores
  have eb : env.blockKind = bkS env.scope := rfl
  simp only [eb, Env.kindOf] at h ⊢
  by_cases h1 : (!(ts.length == 2 || ts.length == 3) || vs.length != ts.length || bkS env.scope != .function) = true
  · rw [if_pos h1] at h ⊢
    cases h; rfl
  rw [if_neg h1] at h ⊢
  split at h
  · rename_i h2
    cases h
    exact if_pos h2
  rename_i h2
  refine (if_neg h2).trans ?_
  split at h
  · rename_i h3
    cases h
    exact if_pos h3
  rename_i h3
  refine (if_neg h3).trans ?_
  split at h
  · rename_i h4
    cases h
    exact if_pos h4
  rename_i h4
  refine (if_neg h4).trans ?_
  split at h
  · cases h
  rename_i h5
  cases h
  exact if_neg h5
section
variable {X : Cx} {pos : Pos}
/-- three from the right -/
def tPar3 (i j l : Nat) (ta : TA) : TS := fun D σ H => ta σ H fun vs H1 => ∃ v w z, vs = [v, w, z] ∧ D.nx (((σ.set i (some v)).set j (some w)).set l (some z)) H1
theorem ps_par3 {i j l : Nat} {x y z : Str} {a b c : Expr} {ta : TA} {px py pz pt : Pos} {kt k2 : Nat} {pt2 : Pos} (hc : X.calm = true) (hN : X.N.Nodup) (hi : X.N[i]? = some x) (hj : X.N[j]? = some y) (hl : X.N[l]? = some z) (hij : i ≠ j) (hil : i ≠ l) (hjl : j ≠ l)
    (hx : X.env.scope.names.lookup x = some .local) (hy : X.env.scope.names.lookup y = some .local) (hz : X.env.scope.names.lookup z = some .local) (ha : PA X [a, b, c] ta)
    (hw : swappedStores [.Tuple [.Name x px, .Name y py, .Name z pz] kt pt] (.Tuple [a, b, c] k2 pt2) X.env = pure (some [x, y, z])) :
    PS X (.Assign [.Tuple [.Name x px, .Name y py, .Name z pz] kt pt] (.Tuple [a, b, c] k2 pt2) pos) (tPar3 i j l ta) := by
  refine ⟨fun pins s σ H D I h => ?_⟩
  rw [exec_Assign_arm]
  refine wpAny_bind (wpAny_standAt ?_)
  rw [show swapsWithSole [.Tuple [.Name x px, .Name y py, .Name z pz] kt pt] (.Tuple [a, b, c] k2 pt2) pos.line X.env = pure false from rfl]
  refine wpAny_bind (wpAny_pure ?_)
  rw [if_neg (by decide)]
  refine wpAny_bind (Tuple_ (thn (ha.run _ pins s σ H _ I h) fun us s1 ⟨vs, H1, I1, r1, q1⟩ => ?_))
  obtain ⟨v, w, t, e1, q1⟩ := q1
  subst e1
  obtain ⟨u1, u2, u3, rfl, rv, rw', rt⟩ : ∃ u1 u2 u3, us = [u1, u2, u3] ∧ RelV v u1 ∧ RelV w u2 ∧ RelV t u3 := by
    cases r1 with
    | cons p q =>
      cases q with
      | cons p' q' =>
        cases q' with
        | cons p2 q2 =>
          cases q2
          exact ⟨_, _, _, rfl, p, p', p2⟩
  refine wpAny_newObj_type ?_ (by show 3 ≤ sizeLine; decide)
  have I2 : Inv X pins σ H1 { s1 with heap := s1.heap.push { cls := .type "tuple", data := .seq [u1, u2, u3].toArray } } := I1.kept (t' := s1.toks) fun b o e => Heap.get?_push_of_some _ e
  rw [hw]
  refine wpAny_bind (wpAny_pure ?_)
  show wpAny (model X.prog X.w) X.A (do rule "assign.swapped-stores"; let items ← unpackItems (.ref s1.heap.objs.size) 3 none; assignInOrder [fun v => bindName X.env z v, fun v => bindName X.env y v, fun v => bindName X.env x v] items.reverse; pure Flow.next) _ _ _
  refine wpAny_bind (wpAny_rule (wpAny_bind (unpackItems_tuple (items := #[u1, u2, u3]) (I.ok.hd hc) (IsTup.new s1.heap _) fun h' hx' => ?_)))
  have I3 := I2.kept (h' := h') (t' := s1.toks) fun b o e => hx' b o (Nat.ne_of_lt (Heap.lt_size e)) e
  show wpAny _ _ (assignInOrder [fun v => bindName X.env z v, fun v => bindName X.env y v, fun v => bindName X.env x v] [u3, u2, u1] >>= fun _ => pure Flow.next) _ _ _
  refine wpAny_bind (assignInOrder_cons (wpAny_bindName (store_ok I3 hN hl (.inl hz) rt (fun s2 I4 => ?_) (.inr hz))))
  refine assignInOrder_cons (wpAny_bindName (store_ok I4 hN hj (.inl hy) rw' (fun s3 I5 => ?_) (.inr hy)))
  refine assignInOrder_cons (wpAny_bindName (store_ok I5 hN hi (.inl hx) rv (fun s4 I6 => assignInOrder_nil (wpAny_pure ?_)) (.inr hx)))
  rw [List.set_comm _ _ (Ne.symm hij), List.set_comm _ _ (Ne.symm hil), List.set_comm _ _ (Ne.symm hjl)] at I6
  exact ⟨_, H1, I6, q1⟩
end
end Mi

set_option Elab.async false
set_option linter.all false
set_option maxRecDepth 100000
set_option maxHeartbeats 2000000
/-! MiT: try with any number of clauses, each with a name or without. -/
namespace Mi
open PySem L2 PySem.Spec PyProof.Rows
abbrev Sui := Addr → Value → Option Addr → TS
/-- the ends of a suite whose clause may have a name -/
def endsN : Option Nat → Ends → Ends
  | none, D => D
  | some i, D => ⟨fun s H => D.nx (s.set i none) H, D.rt, fun s H => D.bk (s.set i none) H, fun s H => D.ct (s.set i none) H⟩
def slotN : Option Nat → Addr → L2.St → L2.St
  | none, _, s => s
  | some i, a, s => s.set i (some (.ref a))
def wAll (K : PySem.W.Frag) (Wo : WX) (D : Ends) : List (Value × Option Nat × Sui) → WX
  | [] => Wo
  | q :: r => fun cls d s H => ∃ b, PySem.W.exmOne K cls q.1 = some b ∧ (b = true → ∀ a, H a = none → q.2.2 a cls d (endsN q.2.1 D) (slotN q.2.1 a s) H) ∧ (b = false → wAll K Wo D r cls d s H)
/-- a suite that holds wherever the exception is handled -/
def SuiOk (X : Cx) (b : List Stmt) (ts : Sui) : Prop := ∀ (a : Addr) (oe : Obj) (cls : Value) (d : Option Addr) (pn : List (Addr × Obj)), Zc cls d oe → (∃ vs, oe.data = .fields vs) → PSs (X.suite a ((a, oe) :: pn)) b (ts a cls d)
inductive ClsOk (X : Cx) : List ExceptHandler → List (Value × Option Nat × Sui) → Prop
  | nil : ClsOk X [] []
  | bare {x : Str} {c : Value} {ts : Sui} {b0 : Stmt} {b : List Stmt} {np p : Pos} {hs : List ExceptHandler} {l : List (Value × Option Nat × Sui)} (hc : Names X x c) (hb : SuiOk X (b0 :: b) ts) (r : ClsOk X hs l) :
      ClsOk X (.ExceptHandler (some (.Name x np)) none (b0 :: b) p :: hs) ((c, none, ts) :: l)
  | named {x n : Str} {i : Nat} {c : Value} {ts : Sui} {b0 : Stmt} {b : List Stmt} {np p : Pos} {hs : List ExceptHandler} {l : List (Value × Option Nat × Sui)} (hc : Names X x c) (hi : X.N[i]? = some n) (hn : X.env.kindOf n = some .local)
      (hb : SuiOk X (b0 :: b) ts) (r : ClsOk X hs l) : ClsOk X (.ExceptHandler (some (.Name x np)) (some n) (b0 :: b) p :: hs) ((c, some i, ts) :: l)
section
variable {X : Cx}
/-- an exception on the ground of a try of X: what is known of it -/
structure Down (X : Cx) (pins : List (Addr × Obj)) (a : Addr) (B : Heap) (sI : Shared) (s : Shared) (σ : L2.St) (H : Hp) (cls : Value) (d : Option Addr) (h3 : Heap) : Prop where
  j : Inv X pins σ H sI
  nb : ∀ b o, sI.heap.get? b = some o → b ∉ frs X.stack → B.get? b = some o
  up : sI.heap.UpToSlots h3
  fl : HandSPX.FlyingZ B (X.env :: X.outer) a (Zc cls d) h3
  na : H a = none
  os : s.os = sI.os
  ag : AllBare s.gens
  nL : a ≠ X.env.locals
  nF : a ∉ X.fs
theorem Down.inv {pins : List (Addr × Obj)} {a : Addr} {B : Heap} {sI s : Shared} {σ : L2.St} {H : Hp} {cls : Value} {d : Option Addr} {h3 : Heap} (z : Down X pins a B sI s σ H cls d h3) : Inv X pins σ H { s with heap := h3 } :=
  z.j.landed z.nb z.fl.1 z.up z.os z.ag
theorem Down.suite {pins : List (Addr × Obj)} {a : Addr} {B : Heap} {sI s : Shared} {σ : L2.St} {H : Hp} {cls : Value} {d : Option Addr} {h3 : Heap} (z : Down X pins a B sI s σ H cls d h3) :
    ∃ oe vs, h3.get? a = some oe ∧ Zc cls d oe ∧ oe.data = .fields vs ∧ Inv (X.suite a ((a, oe) :: (X.pn ++ pins))) [] σ H { s with heap := h3 } := by
  obtain ⟨oe, vs, e, zc, hd⟩ := z.fl.there
  exact ⟨oe, vs, e, zc, hd, z.inv.suite e hd z.na z.nL z.nF⟩
/-- the exception lands once more, for a suite -/
theorem Down.again {pins : List (Addr × Obj)} {a : Addr} {B : Heap} {sI s : Shared} {σ : L2.St} {H : Hp} {cls : Value} {d : Option Addr} {h3 : Heap} {M : Model} {A : Around} {E : Value → Shared → Prop} {Q : Unit → Shared → Prop} (z : Down X pins a B sI s σ H cls d h3)
    (q : ∀ h4, Down X pins a B sI s σ H cls d h4 → Q () { s with heap := h4 }) : wpAny M A (setFlight (.ref a) none) Q E { s with heap := h3 } :=
  HandSPX.lands_againZ z.fl fun h4 f4 u4 => q h4 ⟨z.j, z.nb, z.up.trans u4, f4, z.na, z.os, z.ag, z.nL, z.nF⟩
/-- none of the clauses: it flies on -/
theorem Down.on {pins : List (Addr × Obj)} {a : Addr} {B : Heap} {sI s : Shared} {σ : L2.St} {H : Hp} {cls : Value} {d : Option Addr} {h3 : Heap} {Wo : WX} {D : Ends} (z : Down X pins a B sI s σ H cls d h3) (hs : X.stack = X.env :: X.outer) (hf : X.env.frame = some X.env.locals)
    (tk : Takes X Wo) (w : Wo cls d σ H) : wpAny (model X.prog X.w) X.A (handleBy (.ref a) X.env []) (SP X pins D) X.xe { s with heap := h3 } := by
  refine wpAny_handleBy_nil ?_
  obtain ⟨_, _, _, oe, vs, T, oT, ts, e, _, hd, h1, _⟩ := id z.fl
  have fin : wpAny (model X.prog X.w) X.A (setFlight (.ref a) X.env.frame) (fun _ s4 => wpAny (model X.prog X.w) X.A (throw (.ref a) : Sem Flow) (SP X pins D) X.xe s4) X.xe { s with heap := h3 } := by
    rw [hf]
    exact HandSPX.setFlight_upZ z.fl fun h4 f4 u4 => wpAny_throw (tk _ _ ⟨a, B, sI, pins, σ, H, cls, d, rfl, z.j, z.nb, z.up.trans u4, .inr (.inr (by rw [hs]; exact f4)), z.na, z.os, z.ag, w⟩)
  unfold PySem.passOn
  refine wpAny_bind (wpAny_field e hd h1 ?_)
  rw [if_neg (show ¬ ((Value.ref T == Value.none) = true) from by simp)]
  first
    | exact wpAny_bind (wpAny_pure (wpAny_bind fin))
    | exact wpAny_bind fin
theorem Down.all {pins : List (Addr × Obj)} {a : Addr} {B : Heap} {sI s : Shared} {σ : L2.St} {H : Hp} {cls : Value} {d : Option Addr} {h3 : Heap} {Wo : WX} {D : Ends} (z : Down X pins a B sI s σ H cls d h3) (hs : X.stack = X.env :: X.outer) (hf : X.env.frame = some X.env.locals)
    (hN : X.N.Nodup) (tk : Takes X Wo) (ok : X.Ok) {hds : List ExceptHandler} {l : List (Value × Option Nat × Sui)} (k : ClsOk X hds l) (w : wAll X.K Wo D l cls d σ H) : wpAny (model X.prog X.w) X.A (handleBy (.ref a) X.env hds) (SP X pins D) X.xe { s with heap := h3 } := by
  obtain ⟨oe, vs, e, zc, hd, S⟩ := z.suite
  -- the clause's class is read and asked
  have ask : ∀ {x : Str} {c : Value} {b : Bool} {np : Pos} {Q : Bool → Shared → Prop} {E : Value → Shared → Prop}, Names X x c → PySem.W.exmOne X.K cls c = some b → Q b { s with heap := h3 } →
      wpAny (model X.prog X.w) (X.A.mark (some (.ref a))) (eval (.Name x np) X.env) (fun v s1 => wpAny (model X.prog X.w) (X.A.mark (some (.ref a))) (excMatches (.ref a) v) Q E s1) E { s with heap := h3 } := fun {x c b np Q E} hc hb q => by
    have LT : PySem.W.Looks (model X.prog X.w) h3 (typeOf (.ref a)) cls := fun A Q E s k q => wpAny_typeOf_ref (k _ _ e) (by rw [zc.1]; exact q)
    have LM := PySem.W.exm_one (M := model X.prog X.w) z.inv.kIn LT hb
    obtain ⟨hg, hdb, hm | ⟨hm, hv, hnn⟩⟩ := hc
    · exact ld_glob (X := X.suite a ((a, oe) :: (X.pn ++ pins))) S hg hm (LM.here q) hdb
    · exact ld_blt (X := X.suite a ((a, oe) :: (X.pn ++ pins))) S hg hm hv (LM.here q) hnn hdb
  induction k with
  | nil => exact z.on hs hf tk w
  | @bare x c ts b0 b np p hs2 l2 hc hb r ih =>
    obtain ⟨bb, h1, yes, no⟩ := w
    refine wpAny_handleBy_cons (codeAny_handlers_test ?_) (by intro q; cases q)
    refine ask hc h1 ?_
    cases bb with
    | false => exact ih (no rfl)
    | true =>
      refine codeAny_handlers_suite (z.again fun h4 z4 => ?_)
      obtain ⟨oe4, vs4, e4, zc4, hd4, S4⟩ := z4.suite
      refine wpAny_mono ((hb a oe4 cls d (X.pn ++ pins) zc4 ⟨_, hd4⟩).run [] _ _ H _ S4 (yes rfl a z.na)) (fun f s6 hsp => ?_) (fun _ _ z => False.elim z)
      cases f with
      | ret u => obtain ⟨v6, σ6, H6, S6, r6, q6⟩ := hsp; exact ⟨_, _, _, S6.unsuite ok, r6, q6⟩
      | _ => obtain ⟨σ6, H6, S6, q6⟩ := hsp; exact ⟨_, _, S6.unsuite ok, q6⟩
  | @named x n i c ts b0 b np p hs2 l2 hc hi hn hb r ih =>
    obtain ⟨bb, h1, yes, no⟩ := w
    refine wpAny_handleBy_cons (codeAny_handlers_test ?_) (by intro q; cases q)
    refine ask hc h1 ?_
    cases bb with
    | false => exact ih (no rfl)
    | true =>
      refine codeAny_handlers_suite_as (z.again fun h4 z4 => ?_)
      obtain ⟨oe4, vs4, e4, zc4, hd4, S4⟩ := z4.suite
      refine store_ok (X := X.suite a ((a, oe4) :: (X.pn ++ pins))) (v := .ref a) S4 hN hi (.inl hn) rfl (fun s5 S5 => ?_) (.inr hn)
      refine wpAny_mono ((hb a oe4 cls d (X.pn ++ pins) zc4 ⟨_, hd4⟩).run [] s5 _ H _ S5 (yes rfl a z.na)) (fun f s6 hsp => ?_) (fun _ _ z => False.elim z)
      cases f with
      | ret u => obtain ⟨v6, σ6, H6, S6, r6, q6⟩ := hsp; exact gone_ok (S6.unsuite ok) hN hi hn fun s7 J7 => ⟨_, _, _, J7, r6, q6⟩
      | _ => obtain ⟨σ6, H6, S6, q6⟩ := hsp; exact gone_ok (S6.unsuite ok) hN hi hn fun s7 J7 => ⟨_, _, J7, q6⟩
theorem ps_try_all {body : List Stmt} {h0 : ExceptHandler} {hds : List ExceptHandler} {l : List (Value × Option Nat × Sui)} {pos : Pos} {tb : WX → TS} {Wo : WX} (hs : X.stack = X.env :: X.outer) (hf : X.env.frame = some X.env.locals) (hN : X.N.Nodup) (tk : Takes X Wo)
    (hb : ∀ (W : WX) (pn : List (Addr × Obj)) (xe : Value → Shared → Prop), Takes (X.tr pn xe) W → PassesOwn (model X.prog X.w) X.A X.env xe → PSs (X.tr pn xe) body (tb W))
    (hh : ClsOk X (h0 :: hds) l) : PS X (.Try body (h0 :: hds) [] [] pos) (fun D σ H => tb (wAll X.K Wo D l) D σ H) := by
  refine ⟨fun pins s σ H D I z => ?_⟩
  have ok := I.ok
  have hfr : X.A.frames = some (X.env :: X.outer) := by rw [ok.frames, hs]
  refine wpAny_Try_except (wpAny_mono ((hb (wAll X.K Wo D l) (X.pn ++ pins) _ (fun u s' xx => ?_) PassesOwn.looking).run [] s σ H D (I.toTry _) z) (fun f s1 hsp => ?_) (fun e s1 he => he))
  · obtain ⟨a, B, sI, pins', σ', H', cls, d, rfl, J', nb, up, sky, na, os, ag, w⟩ := xx
    show wpAny (model X.prog X.w) X.A (noteFrame (.ref a) X.env) _ _ _
    refine Sky.land Zc.steady hfr hf (by rw [← hs]; exact sky) fun h3 f3 u3 => ?_
    obtain ⟨oe, vs, e, _, hd⟩ := f3.there
    have nfr : a ∉ frs (X.env :: X.outer) := fun hm => by
      obtain ⟨_, o', e', hnf⟩ := f3.2.2.1.mem hm
      rw [e] at e'; cases e'
      exact hnf _ hd
    have dn : Down X pins a B sI s' σ' H' cls d h3 := ⟨J'.ofTry ok, nb, up.trans u3, f3, na, os, ag, fun q => nfr (List.mem_filterMap.mpr ⟨X.env, List.mem_cons_self, by rw [hf, q]⟩), fun hm => by
      obtain ⟨en, hen, q⟩ := List.mem_filterMap.mp hm
      exact nfr (List.mem_filterMap.mpr ⟨en, List.mem_cons_of_mem _ hen, q⟩)⟩
    exact dn.all hs hf hN tk ok hh w
  · cases f with
    | next => obtain ⟨σ', H', J', q⟩ := hsp; exact wpAny_execs_nil ⟨σ', H', J'.ofTry ok, q⟩
    | ret u => obtain ⟨v, σ', H', J', r, q⟩ := hsp; exact ⟨v, σ', H', J'.ofTry ok, r, q⟩
    | _ => obtain ⟨σ', H', J', q⟩ := hsp; exact ⟨σ', H', J'.ofTry ok, q⟩
end
end Mi

set_option Elab.async false
set_option linter.all false
set_option maxRecDepth 100000
set_option maxHeartbeats 2000000
/-! MiU: except suites: assignments of small expressions over the exception. -/
namespace Mi
open PySem L2
mutual
/-- expressions of a suite; sl: the exception's slot and name -/
def okX (T : Tab) (sc : Scope) (N : List Str) (sl : Option (Nat × Str)) : Nat → Expr → E → Bool
  | 0, _, _ => false
  | n + 1, e, A => match e, A with
    | .Name x _, .var i => decide (N[i]? = some x) && visB sc x && !(x == ("__debug__" : Str)) && !(x == ("__classdict__" : Str))
    | .Constant (.int i) _ _, .cst (.int j) => decide (i = j)
    | .Constant (.bool i) _ _, .cst (.bl j) => decide (i = j)
    | .Constant (.str i) _ _, .cst (.str j) => decide (i = j)
    | .Constant .none _ _, .cst .non => true
    | .Attribute (.Name x _) f _, .xfld g => (match sl with
      | some (i, y) => decide (f = g) && decide (x = y) && T.xflds.contains g && visB sc x && !(x == ("__debug__" : Str)) && !(x == ("__classdict__" : Str))
      | none => false)
    | .Call (.Name w _) [.Name x _, .Name z _] [] _, .xisi c => (match sl with
      | some (i, y) => decide (w = "isinstance") && glB sc w && glB sc z && T.ask.contains (z, c) && decide (x = y) && visB sc x && !(x == ("__debug__" : Str)) && !(x == ("__classdict__" : Str))
      | none => false)
    | .IfExp c a b _, .ite (.xisi k) A B => plainT c && okX T sc N sl n c (.xisi k) && okX T sc N sl n a A && okX T sc N sl n b B
    | .List es _, .lst As => okXs T sc N sl n es As
    | .BinOp a .Add b _, .bin .add A B => okX T sc N sl n a A && okX T sc N sl n b B
    | _, _ => false
def okXs (T : Tab) (sc : Scope) (N : List Str) (sl : Option (Nat × Str)) : Nat → List Expr → Es → Bool
  | 0, _, _ => false
  | n + 1, es, As => match es, As with
    | [], .nil => true
    | e :: es, .cons A As => notStar e && okX T sc N sl n e A && okXs T sc N sl n es As
    | _, _ => false
end
def okXS (T : Tab) (sc : Scope) (N : List Str) (sl : Option (Nat × Str)) : List Stmt → Ss → Bool
  | [], .nil => true
  | .Assign [.Name x _] e _ :: r, .cons (.asg i B) Bs => decide (N[i]? = some x) && locB sc x && notComp e && (match sl with
    | some (j, _) => decide (i ≠ j)
    | none => true) && okX T sc N sl 30 e B && okXS T sc N sl r Bs
  | _, _ => false
section
variable {T : Tab} {C : Cl} {F : Fns} {k : Nat} {sc : Scope} {N : List Str} {X : Cx}
/-- what a suite knows: its exception -/
structure Cur (K : PySem.W.Frag) (C : Cl) (F : Fns) (sl : Option (Nat × Str)) (a : Addr) (cls : Value) (d : Option Addr) (x : Xc) (σ : St) (H : Hp) : Prop where
  rep : RepX K C H x cls d
  lt : x.c < F.xc.length
  at_ : ∀ i y, sl = some (i, y) → σ[i]? = some (some (.ref a))
theorem RepX.mono {K : PySem.W.Frag} {ρ ρ1 : List Addr} {H H1 : Hp} {h : List O} {x : Xc} {cls : Value} {d : Option Addr} (R : RelH K C ρ H h) (f : Fr ρ H ρ1 H1) (r : RepX K C H x cls d) : RepX K C H1 x cls d := by
  obtain ⟨r1, r2⟩ := r
  refine ⟨r1, r2.imp id ?_⟩
  rintro ⟨dd, gs, e1, e2, e3⟩
  refine ⟨dd, gs, e1, f.keep _ _ e2 (notOurs R e2 fun z => z), e3⟩
section
variable {a : Addr} {cls : Value} {d : Option Addr} {sl : Option (Nat × Str)}
theorem Cur.mono {K : PySem.W.Frag} {ρ ρ1 : List Addr} {H H1 : Hp} {h : List O} {x : Xc} {σ : St} (R : RelH K C ρ H h) (f : Fr ρ H ρ1 H1) (r : Cur K C F sl a cls d x σ H) : Cur K C F sl a cls d x σ H1 := ⟨r.rep.mono R f, r.lt, r.at_⟩
/-- readings in a suite -/
def tXE (K : PySem.W.Frag) (C : Cl) (F : Fns) (sl : Option (Nat × Str)) (a : Addr) (cls : Value) (d : Option Addr) (A : E) : TE := fun σ H Q => ∃ x ρ h en, RelH K C ρ H h ∧ RelE K C ρ H σ en ∧ Cur K C F sl a cls d x σ H ∧ Post K C (Rep K C) ρ H (evE { F with cur := some x } A en h) Q (fun _ _ _ => False)
def tXEs (K : PySem.W.Frag) (C : Cl) (F : Fns) (sl : Option (Nat × Str)) (a : Addr) (cls : Value) (d : Option Addr) (As : Es) : TA := fun σ H Q => ∃ x ρ h en, RelH K C ρ H h ∧ RelE K C ρ H σ en ∧ Cur K C F sl a cls d x σ H ∧ Post K C (Reps K C) ρ H (evEs { F with cur := some x } As en h) Q (fun _ _ _ => False)
def tXS (K : PySem.W.Frag) (C : Cl) (F : Fns) (sl : Option (Nat × Str)) (a : Addr) (cls : Value) (d : Option Addr) (As : Ss) : TS := fun Dn σ H => ∃ x ρ h en, RelH K C ρ H h ∧ RelE K C ρ H σ en ∧ Cur K C F sl a cls d x σ H ∧ PostS K C ρ H (evSs { F with cur := some x } As en h) Dn (fun _ _ _ _ => False)
/-- the exception's name is read -/
theorem pe_cur (c : CtxS T C F k sc N X) {oe : Obj} {pn : List (Addr × Obj)} {x : Str} {i : Nat} {p : Pos} {Q0 : TE} (hN : N[i]? = some x) (h1 : visB sc x = true) (h2 : (x == ("__debug__" : Str)) = false) (h3 : (x == ("__classdict__" : Str)) = false)
    (hQ : ∀ σ H Q, Q0 σ H Q → σ[i]? = some (some (.ref a)) ∧ Q (.ref a) H) : PE (X.suite a ((a, oe) :: pn)) (.Name x p) Q0 :=
  PE.weak (X := X.suite a ((a, oe) :: pn)) (pe_var (X := X.suite a ((a, oe) :: pn)) (by show X.N[i]? = _; rw [c.nm]; exact hN) (c.vis h1) h2 h3) fun σ H Q z => ⟨_, (hQ σ H Q z).1, (hQ σ H Q z).2⟩

theorem ask_pe {X : Cx} {x : Str} {v : Value} (y1 : Gl X x) (y2 : (x == ("__debug__" : Str)) = false) (hv : AskAt X.mg x v) : ∃ cv : V, (∀ p, PE X (.Name x p) (tC cv)) ∧ ∀ u, RelV cv u → u = v := by
  rcases hv with ⟨m1, b, rfl⟩ | ⟨m1, ⟨nm, rfl⟩, m3, m4⟩
  · exact ⟨.ref b, fun p => pe_glob y1 m1 rfl y2, fun u hu => hu⟩
  · exact ⟨.ty nm, fun p => pe_bltn y1 m1 m3 rfl m4 y2, fun u hu => hu⟩
/-- isinstance(e, class), e the exception -/
def rIsX (K : PySem.W.Frag) (C : Cl) (F : Fns) (sl : Option (Nat × Str)) (a : Addr) (cls : Value) (d : Option Addr) (v : Value) (c : Nat) : List V → Hp → VK → Prop := fun xs H Q => ∃ (x : Xc) (cv : V), RepX K C H x cls d ∧ x.c < F.xc.length ∧ xs = [.ref a, cv] ∧ (∀ u, RelV cv u → u = v) ∧ Q (.bl (F.sub x.c c)) H
theorem call_isX (c : CtxS T C F k sc N X) {oe : Obj} {pn : List (Addr × Obj)} {v : Value} {cn : Nat} (hv : ∀ c2, c2 < F.xc.length → PySem.W.kitOne X.K (.ref (C.at_ c2)) v = some (F.sub c2 cn)) (hz : Zc cls d oe) (hf : ∃ vs, oe.data = .fields vs) :
    CallR (X.suite a ((a, oe) :: pn)) (.builtin "isinstance") (rIsX X.K C F sl a cls d v cn) := by
  intro pins s σ H xs us Q I r ⟨x, cv, rx, lt, exs, hcv, q⟩
  subst exs
  cases r with
  | cons r1 rr =>
    cases rr with
    | cons r2 rr =>
      cases rr
      cases r1
      have ec := hcv _ r2
      subst ec
      obtain ⟨hget, _⟩ := I.pin (a, oe) (List.mem_append.mpr (.inl List.mem_cons_self))
      obtain ⟨vs, hvs⟩ := hf
      obtain ⟨h1, h2⟩ := hz
      obtain ⟨e1, e2⟩ := rx
      obtain ⟨kx, _⟩ := c.xrd x.c lt
      have nc : PySem.W.notCls oe = true := by unfold PySem.W.notCls; rw [hvs] <;> rfl
      have J : ∃ od, PySem.W.InstAt s.heap a oe (C.at_ x.c) od := by
        rcases e2 with ⟨_, hn⟩ | ⟨dd, gs, hd, hH, _⟩
        · exact ⟨none, hget, by rw [h1, e1], nc, by rw [h2, hn]; trivial⟩
        · have hx : ObjOk X.prog X.w H s.heap dd (.xd gs) := I.hok dd _ hH
          obtain ⟨mA, hns, hr⟩ := hx
          obtain ⟨od, ho, hl⟩ := lookIn_ns hns
          exact ⟨some od, hget, by rw [h1, e1], nc, by rw [h2, hd]; exact ho⟩
      obtain ⟨od, J⟩ := J
      exact PySem.W.kia_one (PySem.W.kitx_exc (od := od) kx.cl kx.hg kx.hk kx.hs kx.ha kx.hn kx.ht kx.hm) I.kIn J (hv _ lt) (fun z => nomatch z) fun tk => ⟨.bl _, H, I.kept (t' := tk) fun _ _ z => z, rfl, q⟩
theorem xfld_pe (c : CtxS T C F k sc N X) {oe : Obj} {pn : List (Addr × Obj)} {x g : Str} {i : Nat} {p p2 : Pos} (hN : N[i]? = some x) (h1 : visB sc x = true) (h2 : (x == ("__debug__" : Str)) = false) (h3 : (x == ("__classdict__" : Str)) = false) (hg : g ∈ T.xflds) (hz : Zc cls d oe) (hf : ∃ vs, oe.data = .fields vs) :
    PE (X.suite a ((a, oe) :: pn)) (.Attribute (.Name x p) g p2) (tXE X.K C F (some (i, x)) a cls d (.xfld g)) := by
  refine ⟨fun pins s σ H Q I ⟨x0, ρ, h, en, R, RE, cu, z⟩ => ?_⟩
  obtain ⟨e1, e2⟩ := id cu.rep
  obtain ⟨kx, kf⟩ := c.xrd x0.c cu.lt
  rw [evE] at z
  obtain ⟨e, he, z2⟩ := ofO_post z
  obtain ⟨dd, gs, hd, hH, hl⟩ : ∃ dd gs, d = some dd ∧ H dd = some (.xd gs) ∧ ∀ f e, x0.fs.lookup f = some e → ∃ v, gs.lookup f = some v ∧ ∀ ρ2 H2, Rep X.K C ρ2 H2 e v := by
    rcases e2 with ⟨hn, _⟩ | h
    · rw [show x0.fs = [] from hn] at he; cases he
    · exact h
  obtain ⟨v, hv, rv⟩ := hl g e he
  have pn := pe_cur (a := a) c (oe := oe) (pn := pn) (p := p) (Q0 := fun σ H Q => σ[i]? = some (some (.ref a)) ∧ Q (.ref a) H) hN h1 h2 h3 (fun σ H Q z => z)
  refine (pe_xf (X := X) (C := C.at_ x0.c) (pos := p2) (n := g) ⟨kx.hg, kx.hk, kx.hs, kx.hd⟩ (kf g hg) hz hf pn (by rfl)).run pins s σ H Q I ⟨cu.at_ i x rfl, rfl, e1, dd, gs, v, hd, hH, hv, ?_⟩
  exact z2.ok_ R (rv ρ H)
/-- the theorem for a suite's expressions -/
structure Xkn (T : Tab) (C : Cl) (F : Fns) (sc : Scope) (N : List Str) (X : Cx) (sl : Option (Nat × Str)) (a : Addr) (oe : Obj) (pn : List (Addr × Obj)) (cls : Value) (d : Option Addr) (n : Nat) : Prop where
  e : ∀ e A, okX T sc N sl n e A = true → PE (X.suite a ((a, oe) :: pn)) e (tXE X.K C F sl a cls d A)
  es : ∀ es As, okXs T sc N sl n es As = true → PA (X.suite a ((a, oe) :: pn)) es (tXEs X.K C F sl a cls d As)
theorem okX_all (c : CtxS T C F k sc N X) {oe : Obj} {pn : List (Addr × Obj)} (hz : Zc cls d oe) (hf : ∃ vs, oe.data = .fields vs) (hsl : ∀ i y, sl = some (i, y) → N[i]? = some y) : ∀ n, Xkn T C F sc N X sl a oe pn cls d n := by
  intro n
  induction n with
  | zero => exact ⟨fun e A h => (by cases h), fun e A h => (by cases h)⟩
  | succ n ih =>
    refine ⟨fun e A h => ?_, fun es As h => ?_⟩
    · unfold okX at h
      split at h
      · simp only [Bool.and_eq_true, decide_eq_true_eq, Bool.not_eq_true'] at h
        obtain ⟨⟨⟨h1, h2⟩, h3⟩, h4⟩ := h
        refine PE.weak (X := X.suite a ((a, oe) :: pn)) (pe_var (X := X.suite a ((a, oe) :: pn)) (by show X.N[_]? = _; rw [c.nm]; exact h1) (c.vis h2) h3 h4) fun σ H Q ⟨x, ρ, h, en, R, RE, cu, z⟩ => ?_
        rw [evE] at z
        split at z
        · rename_i d hd
          obtain ⟨v, e1, r1⟩ := RE.at_ _ _ hd
          exact ⟨v, e1, z.ok_ R r1⟩
        · exact stuck_no z
      · simp only [decide_eq_true_eq] at h; subst h
        refine PE.weak (X := X.suite a ((a, oe) :: pn)) pe_int fun σ H Q ⟨x, ρ, h, en, R, RE, cu, z⟩ => ?_
        rw [evE] at z
        exact z.ok_ R (rep_int.mpr rfl)
      · simp only [decide_eq_true_eq] at h; subst h
        refine PE.weak (X := X.suite a ((a, oe) :: pn)) pe_bl fun σ H Q ⟨x, ρ, h, en, R, RE, cu, z⟩ => ?_
        rw [evE] at z
        exact z.ok_ R (rep_bl.mpr rfl)
      · simp only [decide_eq_true_eq] at h; subst h
        refine PE.weak (X := X.suite a ((a, oe) :: pn)) pe_str fun σ H Q ⟨x, ρ, h, en, R, RE, cu, z⟩ => ?_
        rw [evE] at z
        exact z.ok_ R (rep_str.mpr rfl)
      · refine PE.weak (X := X.suite a ((a, oe) :: pn)) pe_non fun σ H Q ⟨x, ρ, h, en, R, RE, cu, z⟩ => ?_
        rw [evE] at z
        exact z.ok_ R (rep_non.mpr rfl)
      · split at h
        · rename_i i y
          simp only [Bool.and_eq_true, decide_eq_true_eq, Bool.not_eq_true'] at h
          obtain ⟨⟨⟨⟨⟨h1, h2⟩, h3⟩, h4⟩, h5⟩, h6⟩ := h
          subst h1 h2
          exact xfld_pe c (hsl i _ rfl) h4 h5 h6 (List.contains_iff_mem.mp h3) hz hf
        · cases h
      · split at h
        · rename_i i y
          simp only [Bool.and_eq_true, decide_eq_true_eq, Bool.not_eq_true'] at h
          obtain ⟨⟨⟨⟨⟨⟨⟨h1, h2⟩, h3⟩, h4⟩, h5⟩, h6⟩, h7⟩, h8⟩ := h
          subst h1 h5
          obtain ⟨g1, g2, g3⟩ := c.gl h2
          obtain ⟨y1, y2, y3⟩ := c.gl h3
          obtain ⟨v, hv, hk⟩ := c.ask _ _ (List.contains_iff_mem.mp h4)
          obtain ⟨cv, hc, hcv⟩ := ask_pe (X := X.suite a ((a, oe) :: pn)) y1 y2 hv
          have pn' := fun p => pe_cur (a := a) c (oe := oe) (pn := pn) (p := p) (Q0 := fun σ H Q => σ[i]? = some (some (.ref a)) ∧ Q (.ref a) H) (hsl i _ rfl) h6 h7 h8 (fun σ H Q z => z)
          refine PE.weak (X := X.suite a ((a, oe) :: pn)) (pe_callB (X := X.suite a ((a, oe) :: pn)) (call_isX (sl := none) c (fun c2 hc2 => (hk c2 hc2).1) hz hf) g1 (c.kok.free _ (by decide +kernel)) (by decide +kernel) (pa_cons (pn' _) (pa_cons (hc _) pa_nil))) fun σ H Q ⟨x, ρ, h, en, R, RE, cu, z⟩ => ?_
          rw [evE] at z
          exact ⟨cu.at_ i _ rfl, x, cv, cu.rep, cu.lt, rfl, hcv, bl_end R z⟩
        · cases h
      · simp only [Bool.and_eq_true] at h
        obtain ⟨⟨⟨h0, h1⟩, h2⟩, h3⟩ := h
        have pc := ih.e _ _ h1
        have he : ∀ {cc : Expr} {env : Env}, plainT cc = true → ∀ whole, isTrue cc env whole = (do let v ← whole; standAt cc.pos; holding [v] (truthy v)) := fun {cc env} hp => by
          cases cc <;> first | (intro _; rfl) | cases hp | (rename_i op _ _; cases op <;> first | (intro _; rfl) | cases hp)
        refine PE.weak (X := X.suite a ((a, oe) :: pn)) (pe_ifExp (X := X.suite a ((a, oe) :: pn)) (pt_truth (X := X.suite a ((a, oe) :: pn)) pc (he h0)) (ih.e _ _ h2) (ih.e _ _ h3)) fun σ H Q ⟨x, ρ, h, en, R, RE, cu, z⟩ => ?_
        rw [evE, evE] at z
        simp only [Out.bind_ok, truI] at z
        refine ⟨x, ρ, h, en, R, RE, cu, ?_⟩
        rw [evE]
        intro ρ1 H1 v g1 R1 r1
        refine ⟨F.sub x.c _, tru_rep R1 r1 rfl, ?_⟩
        cases hb : F.sub x.c _ with
        | true => rw [hb] at z; rw [if_pos rfl]; exact ⟨x, ρ1, h, en, R1, RE.mono g1, cu.mono R g1, Post.from_ g1 z⟩
        | false => rw [hb] at z; rw [if_neg Bool.false_ne_true]; exact ⟨x, ρ1, h, en, R1, RE.mono g1, cu.mono R g1, Post.from_ g1 z⟩
      · refine PE.weak (X := X.suite a ((a, oe) :: pn)) (pe_lst (ih.es _ _ h)) fun σ H Q ⟨x, ρ, h, en, R, RE, cu, z⟩ => ?_
        rw [evE] at z
        refine ⟨x, ρ, h, en, R, RE, cu, z.step fun ds h1 ρ1 H1 vs f1 R1 r1 z1 => ?_⟩
        split at z1
        · rename_i hl
          exact ⟨by rw [r1.length]; exact limOk hl, new_lst R1 r1 z1⟩
        · exact stuck_no z1
      · simp only [Bool.and_eq_true] at h
        refine PE.weak (X := X.suite a ((a, oe) :: pn)) (pe_op (op_B .add) (ih.e _ _ h.1) (ih.e _ _ h.2)) fun σ H Q ⟨x, ρ, h, en, R, RE, cu, z⟩ => ?_
        rw [evE] at z
        refine ⟨x, ρ, h, en, R, RE, cu, z.step fun d1 h1 ρ1 H1 v1 f1 R1 r1 z1 => ?_⟩
        refine ⟨x, ρ1, h1, en, R1, RE.mono f1, cu.mono R f1, z1.step fun d2 h2 ρ2 H2 v2 f2 R2 r2 z2 => ?_⟩
        exact bin_ok R2 (r1.mono f2) r2 z2
      · cases h
    · unfold okXs at h
      split at h
      · refine PA.weak (X := X.suite a ((a, oe) :: pn)) pa_nil fun σ H Q ⟨x, ρ, h, en, R, RE, cu, z⟩ => ?_
        rw [evEs] at z
        exact z.ok_ R Reps.nil
      · simp only [Bool.and_eq_true] at h
        obtain ⟨⟨h1, h2⟩, h3⟩ := h
        refine PA.weak (X := X.suite a ((a, oe) :: pn)) (pa_cons (ih.e _ _ h2) (ih.es _ _ h3) (star_of h1)) fun σ H Q ⟨x, ρ, h, en, R, RE, cu, z⟩ => ?_
        rw [evEs] at z
        refine ⟨x, ρ, h, en, R, RE, cu, z.step fun d h1 ρ1 H1 v g1 R1 r1 p1 => ?_⟩
        refine ⟨x, ρ1, h1, en, R1, RE.mono g1, cu.mono R g1, p1.step fun ds h2 ρ2 H2 vs g2 R2 r2 p2 => ?_⟩
        exact p2.ok_ R2 (Reps.cons (r1.mono g2) r2)
      · cases h
theorem OS.of_seq {α : Type} {o : Out α} {en : En} {g : α → List O → OS} {f : En → List O → OS} : (OS.of o en g).seq f = OS.of o en (fun a h => (g a h).seq f) := by
  cases o <;> rfl
/-- a suite's statements -/
theorem okXS_all (c : CtxS T C F k sc N X) {oe : Obj} {pn : List (Addr × Obj)} (hz : Zc cls d oe) (hf : ∃ vs, oe.data = .fields vs) (hsl : ∀ i y, sl = some (i, y) → N[i]? = some y) : ∀ ss As, okXS T sc N sl ss As = true → PSs (X.suite a ((a, oe) :: pn)) ss (tXS X.K C F sl a cls d As)
  | [], .nil, _ => PSs.weak (X := X.suite a ((a, oe) :: pn)) pss_nil fun D σ H ⟨x, ρ, h, en, R, RE, cu, z⟩ => by
    rw [evSs] at z
    exact PostS.nx_ R RE z
  | .Assign [.Name x p] e q :: r, .cons (.asg i B) Bs, h => by
    simp only [okXS, Bool.and_eq_true, decide_eq_true_eq] at h
    obtain ⟨⟨⟨⟨⟨h1, h2⟩, h3⟩, h4⟩, h5⟩, h6⟩ := h
    obtain ⟨l1, l2⟩ := c.loc h2
    have he := (okX_all (a := a) (cls := cls) (d := d) c (pn := pn) hz hf hsl 30).e _ _ h5
    have hr := okXS_all c (pn := pn) hz hf hsl r Bs h6
    refine PSs.weak (X := X.suite a ((a, oe) :: pn)) (pss_cons (ps_set (X := X.suite a ((a, oe) :: pn)) (by show X.N.Nodup; rw [c.nm]; exact c.nd) (by show X.N[i]? = _; rw [c.nm]; exact h1) l1 he (swaps_of h3) l2) hr) fun D σ H ⟨x0, ρ, h, en, R, RE, cu, z⟩ => ?_
    rw [evSs, evS, OS.of_seq] at z
    refine ⟨x0, ρ, h, en, R, RE, cu, PostS.of RE z fun d1 h1' ρ1 H1 v f1 R1 RE1 r1 z1 => ?_⟩
    refine ⟨x0, ρ1, h1', _, R1, RE1.set _ r1, ⟨(cu.mono R f1).rep, cu.lt, fun j y ej => ?_⟩, z1⟩
    rw [ej] at h4
    have hne : i ≠ j := of_decide_eq_true h4
    rw [List.getElem?_set_ne hne]
    exact cu.at_ j y ej
  | [], .cons _ _, h => by cases h
  | _ :: _, .nil, h => by simp [okXS] at h
end
/-- the clauses -/
def okHs (T : Tab) (sc : Scope) (N : List Str) : List ExceptHandler → Hs → Bool
  | [], .nil => true
  | .ExceptHandler (some (.Name x _)) none (b0 :: b) _ :: hs, .cons c none S r => glB sc x && T.ask.contains (x, c) && okXS T sc N none (b0 :: b) S && okHs T sc N hs r
  | .ExceptHandler (some (.Name x _)) (some n) (b0 :: b) _ :: hs, .cons c (some i) S r => glB sc x && T.ask.contains (x, c) && decide (N[i]? = some n) && decide (sc.names.lookup n = some .local) && okXS T sc N (some (i, n)) (b0 :: b) S && okHs T sc N hs r
  | _, _ => false
theorem RelE.unset {K : PySem.W.Frag} {ρ : List Addr} {H : Hp} {σ : St} {en : En} (r : RelE K C ρ H σ en) (i : Nat) (u : Option V) : RelE K C ρ H (σ.set i u) (en.set i none) := by
  refine ⟨by simp [r.len], fun j e q => ?_⟩
  by_cases hj : j = i
  · subst hj
    have hl : j < en.length := by
      have := (List.getElem?_eq_some_iff.mp q).1
      simpa using this
    rw [List.getElem?_set_self hl] at q
    cases q
  · rw [List.getElem?_set_ne (Ne.symm hj)] at q
    obtain ⟨v, h1, h2⟩ := r.at_ j e q
    exact ⟨v, by rw [List.getElem?_set_ne (Ne.symm hj)]; exact h1, h2⟩
theorem hs_ok (c : CtxS T C F k sc N X) : ∀ hds Hs, okHs T sc N hds Hs = true → ∃ l, ClsOk X hds l ∧ ∀ (W : WX) (Dn : Ends) (ρ : List Addr) (H : Hp) (h : List O) (en : En) (σ : St) (x : Xc) (cls : Value) (d : Option Addr), RelH X.K C ρ H h → RelE X.K C ρ H σ en → RepX X.K C H x cls d →
    PostS X.K C ρ H (evHs F Hs x en h) Dn W → wAll X.K W Dn l cls d σ H
  | [], .nil, _ => ⟨[], .nil, fun W Dn ρ H h en σ x cls d R RE rx z => by
    rw [evHs] at z
    exact z ρ H σ cls d (Fr.refl _ _) R RE rx⟩
  | .ExceptHandler (some (.Name x p)) none (b0 :: b) q :: hds, .cons cn none S r, h => by
    simp only [okHs, Bool.and_eq_true] at h
    obtain ⟨⟨⟨h1, h2⟩, h3⟩, h4⟩ := h
    obtain ⟨l, k1, k2⟩ := hs_ok c hds r h4
    obtain ⟨g1, g2, g3⟩ := c.gl h1
    obtain ⟨v, hv, hk⟩ := c.ask _ _ (List.contains_iff_mem.mp h2)
    have nm : Names X x v := ⟨g1, g2, by
      rcases hv with ⟨m1, _⟩ | ⟨m1, _, m3, m4⟩
      · exact .inl m1
      · exact .inr ⟨m1, m3, m4⟩⟩
    refine ⟨_, .bare (ts := fun a cls d => tXS X.K C F none a cls d S) nm (fun a oe cls d pn hz hf => okXS_all c hz hf (fun i y e => by cases e) _ _ h3) k1, fun W Dn ρ H h en σ x cls d R RE rx z => ?_⟩
    rw [evHs] at z
    split at z
    · rename_i lt
      refine ⟨F.sub x.c cn, by rw [rx.1]; exact (hk _ lt).2, fun e a ha => ?_, fun e => ?_⟩
      · rw [if_pos e] at z
        refine ⟨x, ρ, h, en, R, RE, ⟨rx, lt, fun i y e => by cases e⟩, ?_⟩
        cases ho : evSs { F with cur := some x } S en h with
        | ex x2 en2 h2 => rw [ho] at z; exact noS z
        | nx en2 h2 => rw [ho] at z; exact z
        | rt d2 h2 => rw [ho] at z; exact z
        | bk en2 h2 => rw [ho] at z; exact z
        | stuck => rw [ho] at z; exact noS z
      · rw [if_neg (by rw [e]; exact Bool.false_ne_true)] at z
        exact k2 W Dn ρ H h en σ x cls d R RE rx z
    · exact noS z
  | .ExceptHandler (some (.Name x p)) (some n) (b0 :: b) q :: hds, .cons cn (some i) S r, h => by
    simp only [okHs, Bool.and_eq_true, decide_eq_true_eq] at h
    obtain ⟨⟨⟨⟨⟨h1, h2⟩, h5⟩, h6⟩, h3⟩, h4⟩ := h
    obtain ⟨l, k1, k2⟩ := hs_ok c hds r h4
    obtain ⟨g1, g2, g3⟩ := c.gl h1
    obtain ⟨v, hv, hk⟩ := c.ask _ _ (List.contains_iff_mem.mp h2)
    have nm : Names X x v := ⟨g1, g2, by
      rcases hv with ⟨m1, _⟩ | ⟨m1, _, m3, m4⟩
      · exact .inl m1
      · exact .inr ⟨m1, m3, m4⟩⟩
    refine ⟨_, .named (i := i) (ts := fun a cls d => tXS X.K C F (some (i, n)) a cls d S) nm (by rw [c.nm]; exact h5) (by show X.env.scope.names.lookup n = _; rw [c.hsc]; exact h6) (fun a oe cls d pn hz hf => okXS_all c hz hf (fun i y e => by cases e; exact h5) _ _ h3) k1, fun W Dn ρ H h en σ x cls d R RE rx z => ?_⟩
    rw [evHs] at z
    split at z
    · rename_i lt
      refine ⟨F.sub x.c cn, by rw [rx.1]; exact (hk _ lt).2, fun e a ha => ?_, fun e => ?_⟩
      · rw [if_pos e] at z
        split at z
        · rename_i hi
          refine ⟨x, ρ, h, en.set i none, R, RE.unset i _, ⟨rx, lt, fun j y e => by cases e; exact List.getElem?_set_self (by rw [← RE.len]; exact hi)⟩, ?_⟩
          cases ho : evSs { F with cur := some x } S (en.set i none) h with
          | ex x2 en2 h2 => rw [ho] at z; exact noS z
          | nx en2 h2 => rw [ho] at z; exact fun ρ' H' σ' f R' RE' => z ρ' H' (σ'.set i none) f R' (RE'.unset i none)
          | rt d2 h2 => rw [ho] at z; exact z
          | bk en2 h2 => rw [ho] at z; exact noS z
          | stuck => rw [ho] at z; exact noS z
        · exact noS z
      · rw [if_neg (by rw [e]; exact Bool.false_ne_true)] at z
        exact k2 W Dn ρ H h en σ x cls d R RE rx z
    · exact noS z
theorem CtxS.tr (c : CtxS T C F k sc N X) {pn : List (Addr × Obj)} {xe : Value → Shared → Prop} (o : PassesOwn (model X.prog X.w) X.A X.env xe) : CtxS T C F k sc N (X.tr pn xe) :=
  ⟨⟨c.hsc, c.nm, c.room, c.calm, c.kok, c.fns, c.cls, c.flds, c.mks, c.hsl, c.hP, c.hW, c.sal, c.eqs, c.prD, c.prs, c.cprs⟩, c.nd, c.fnC, o, c.stk, c.frm, c.knd, c.xcs, c.xrd, c.ask⟩
end
end Mi

set_option Elab.async false
set_option linter.all false
set_option maxRecDepth 100000
set_option maxHeartbeats 2000000
/-! MiV: enumerate(v), v a list or a tuple. -/
namespace Mi
open PySem PySem.Spec PyProof.Rows L2
open Sem (wp)
/-- enumerate's own cell -/
abbrev enObj (it : Addr) : Obj := { cls := .type "enumerate", data := .fields #[.none, .bool false, .ref it, rawInt 0, .none, .none] }
/-- a new enumerate object over what begins with the object o -/
theorem new_enum1 {v : Value} {o : Obj} {G : Heap → Prop} (B : Begins v o G) :
    Meets (Builtin.«enumerate.__new__» ⟨[.type "enumerate", v], []⟩) (fun _ R st => G st.heap ∧
      R (.ok (.ret (.ref (st.heap.push o).objs.size))) { st with heap := ((st.heap.push o).push (enObj st.heap.objs.size)) }) :=
  .of_wp fun prog w A R st hst => by
    obtain ⟨hp, gg, dd, tk, os⟩ := st; obtain ⟨hG, hst⟩ := hst
    have hsub := sub_enumerate
    have itr : ∀ {A' : Around} {E' : Value → Shared → Prop} {Q' : Value → Shared → Prop}, Q' (.ref hp.objs.size) ⟨hp.push o, gg, dd, tk, os⟩ →
        wpAny (model prog w) A' (pyIter v) Q' E' ⟨hp, gg, dd, tk, os⟩ := fun q => B.iter prog w _ _ ⟨hp, gg, dd, tk, os⟩ _ hG q
    wp_walk using itr
    refine wpAny_stack_any fun stk => wpAny_pure ?_
    split
    · rename_i cc _ _ _ _ _
      cases (cc == Value.type "enumerate")
      · wp_walk using itr
        exact ⟨_, rfl, hst⟩
      · wp_walk using itr
        exact ⟨_, rfl, hst⟩
    · wp_walk using itr
      exact ⟨_, rfl, hst⟩
section
variable {prog : Program} {w : World} {A : Around} {E : Value → Shared → Prop} {s : Shared}
theorem call_enum1 {v : Value} {o : Obj} {G : Heap → Prop} {Q : Value → Shared → Prop} (B : Begins v o G) (hG : G s.heap)
    (hh : ∀ h', IsEnum h' (s.heap.objs.size + 1) s.heap.objs.size 0 .none → h'.get? s.heap.objs.size = some o → h'.objs.size = s.heap.objs.size + 2 →
      (∀ b ob, s.heap.get? b = some ob → h'.get? b = some ob) → Q (.ref (s.heap.objs.size + 1)) { s with heap := h' }) :
    wpAny (model prog w) A (call (.type "enumerate") [v]) Q E s := by
  refine callType_new F.called_enumerate (by decide) (F.typeCall_enumerate_1 _) (F.newCall_enumerate_1 _) (fun obj => F.args_object_init_2 obj _) F.entry_enumerate_new
    (new_enum1 B) ⟨hG, ?_⟩
  have sz : (s.heap.push o).objs.size = s.heap.objs.size + 1 := Heap.size_push ..
  show _ ∧ _
  rw [sz]
  have en : IsEnum ((s.heap.push o).push (enObj s.heap.objs.size)) (s.heap.objs.size + 1) s.heap.objs.size 0 .none := by
    have z := Heap.get?_push_size (s.heap.push o) (o := enObj s.heap.objs.size) rfl
    rw [sz] at z; exact z
  exact ⟨⟨_, en, rfl⟩, hh _ en (Heap.get?_push_of_some _ (Heap.get?_push_size _ B.free)) (by rw [Heap.size_push, sz]) fun b ob x => Heap.get?_push_of_some _ (Heap.get?_push_of_some _ x)⟩
end
/-- the tuple at a, each item in a new pair with its place -/
def Iet (K : PySem.W.Frag) (a : Addr) : L2.It :=
  ⟨fun i H => ∃ (ys : List V) (y : V), SqT K H a ys ∧ ys[i]? = some y, fun i H v H' => ∃ T y, v = .ref T ∧ H T = none ∧ H' = upd H T (.tup [.int (i : Nat), y]) ∧ ∀ ys, SqT K H a ys → ys[i]? = some y,
    fun i H => ∃ ys : List V, SqT K H a ys ∧ ys.length ≤ i⟩
theorem turn_enumT {P : Program} {w : World} {K : PySem.W.Frag} {elts : List Expr} {kk : Nat} {tpos : Pos} (a e it : Addr) :
    Turn P w K (.Tuple elts kk tpos) (Iet K a) [e, it] e (fun i h => (∃ old, IsEnum h e it ((i : Nat) : Int) old) ∧ h.IsTupleIter it a i ∧ e ≠ it ∧ a ≠ it ∧ a ≠ e) where
  mem := by simp
  obj := fun i h st b hb => by
    obtain ⟨⟨old, he⟩, ⟨o, ho, hc, hd⟩, _⟩ := st
    have eb : b = e ∨ b = it := by simpa using hb
    rcases eb with rfl | rfl
    · exact ⟨_, he, fun v q => nomatch q⟩
    · exact ⟨o, ho, fun v q => by rw [hd] at q; cases q⟩
  keep := fun i h h' st k => by
    obtain ⟨⟨old, he⟩, hi, hne⟩ := st
    exact ⟨⟨old, k e (by simp) _ he⟩, hi.at fun o q => k it (by simp) o q, hne⟩
  item := by
    intro X hP hw hK hc i pins s σ H E I hf st hg
    subst hP hw hK
    obtain ⟨⟨old, he⟩, hit, hne, hai, hae⟩ := st
    obtain ⟨ys, y, hq, hy⟩ := hg
    obtain ⟨its, rv, p, hz⟩ := I.tuple hq
    obtain ⟨u, hu, ru⟩ := rv.get hy
    have hel : e < s.heap.objs.size := Heap.lt_size he
    have hil : it < s.heap.objs.size := by obtain ⟨_, q, _⟩ := hit; exact Heap.lt_size q
    have hlt : i < its.toArray.size := by
      have := (List.getElem?_eq_some_iff.mp hu).1
      simpa using this
    have D := Draws.tuple (prog := X.prog) (w := X.w) (A := X.A.in1) (show X.A.in1.handled = none from I.ok.hd hc) it a hai its.toArray
    refine wpAny_pyNext_enum_itemC (c := ((i : Nat) : Int)) D he ⟨hit, p⟩ hlt hne (by simp [hne, Ne.symm hae]) fun z h' tk hP ho hst hT hsz hk => ?_
    have ez : z = u := by
      have : its[i]? = some z := by simpa using hP
      rw [hu] at this
      exact (Option.some.inj this).symm
    subst ez
    refine ⟨_, rfl, wpAny_letOwnedTupleGo_enum (s := { s with heap := h', toks := tk + 1 }) ho fun h'' he' sb => ?_⟩
    have hT2 : h''.get? s.heap.objs.size = some { cls := .type "tuple", data := .seq #[.int i tk, z] } := (sb.2 _ (Nat.ne_of_gt hel)).trans hT
    have new : ObjOk X.prog X.w (upd H s.heap.objs.size (.tup [.int (i : Nat), y])) h'' s.heap.objs.size (.tup [.int (i : Nat), y]) :=
      ⟨by show 2 ≤ sizeLine; decide, [.int i tk, z], .cons ⟨_, rfl⟩ (.cons ru .nil), ⟨_, hT2, rfl, _, rfl⟩⟩
    have I1 : Inv X pins σ (upd H s.heap.objs.size (.tup [.int (i : Nat), y])) { s with heap := h'', toks := tk + 1 } :=
      I.turnedNew (ch := [e, it]) (fun b ob hb q => (sb.2 b (fun z => hb (by simp [z]))).trans (hk b ob (fun z => hb (by simp [z])) (fun z => hb (by simp [z])) q)) hf (Nat.le_refl _) new
    refine ⟨.ref s.heap.objs.size, _, I1, rfl, ⟨_, y, rfl, I.hok.fresh (Nat.le_refl _), rfl, fun zs hz => by rw [I.tuple_inj hz hq]; exact hy⟩, ⟨⟨z, ?_⟩, hst.1.at fun o q => (sb.2 it (Ne.symm hne)).trans q, hne, hai, hae⟩, fun b hb => ?_⟩
    · have e1 : ((i + 1 : Nat) : Int) = (i : Int) + 1 := by omega
      rw [e1]; exact he'
    · have hlb : b < s.heap.objs.size := by
        have eb : b = e ∨ b = it := by simpa using hb
        rcases eb with rfl | rfl
        · exact hel
        · exact hil
      rw [upd_ne (Nat.ne_of_lt hlb)]
      exact (hf b hb).1
  done := by
    intro X hP hw hK hc i pins s σ H E I hf st hg
    subst hP hw hK
    obtain ⟨⟨old, he⟩, hit, hne, hai, hae⟩ := st
    obtain ⟨ys, hq, hx⟩ := hg
    obtain ⟨its, rv, p, hz⟩ := I.tuple hq
    obtain ⟨f0, f1, f2, f3, f4, f5⟩ := hf it (by simp)
    have hl := rv.length
    have hh : X.A.in1.handled = none := I.ok.hd hc
    have no : its.toArray[i]? = none := by simp; omega
    have D : Draws X.prog X.w X.A.in1 it [it, a] i (fun _ _ => True) (fun j h => j = i ∧ h.IsTupleIter it a i ∧ h.IsTuple a its.toArray) :=
      ⟨fun _ _ st => let ⟨o, ho, _⟩ := st.2.1; ⟨o, ho⟩, fun _ _ _ st hk => ⟨st.1, st.2.1.at fun o q => hk it (by simp) o q, st.2.2.at fun o q => hk a (by simp) o q⟩,
        fun j _ _ _ hj st _ => absurd st.1 (by omega), fun s Q E st hE => wpAny_nextOf_tuple_end hh st.2.1 st.2.2 no hE⟩
    exact wpAny_pyNext_enum_endD D he ⟨rfl, hit, p⟩ fun h' eb => ⟨rfl, I.turned (t' := s.toks) (fun b o hb q => eb b o hb q) f0 f1 f3 f4 f5⟩
  self := fun A i s Q E st h => by
    obtain ⟨⟨_, he⟩, _⟩ := st
    exact wpAny_pyIter_enum he h
def iEnum2 (K : PySem.W.Frag) (ta : TA) : TI := fun σ H R => ta σ H fun vs H1 => ∃ a xs, vs = [.ref a] ∧ ((SqL K H1 a xs ∧ R (Ite K a) H1) ∨ (SqT K H1 a xs ∧ R (Iet K a) H1))
theorem pi_enum2 {X : Cx} {e : Expr} {ta : TA} {p pos tpos : Pos} {elts : List Expr} {kk : Nat} (hg : Gl X "enumerate") (hm : X.mg "enumerate" = none) (ha : PA X [e] ta) (hs : starEach [e] X.env = [(false, eval e X.env)] := by rfl) :
    PI X (.Tuple elts kk tpos) (.Call (.Name "enumerate" p) [e] [] pos) (iEnum2 X.K ta) := by
  refine ⟨fun pins s σ H R I h => ?_⟩
  refine Call_ (ld_blt I hg hm boot_enumerate (PyProof.Rows.callWith_type1 (thn (ha.run pos pins s σ H _ I h) fun us s1 ⟨vs, H1, I1, r1, q1⟩ => ?_) hs rfl))
  obtain ⟨a, xs, ex, hq⟩ := q1
  subst ex
  cases r1 with
  | cons r rr =>
    cases rr
    cases r
    have fps : ∀ b ∈ [s1.heap.objs.size + 1, s1.heap.objs.size], FpOk X pins H1 b := fun b hb => by
      have eb : b = s1.heap.objs.size + 1 ∨ b = s1.heap.objs.size := by simpa using hb
      have le : s1.heap.objs.size ≤ b := by omega
      exact I1.fpOk le (I1.hok.fresh le)
    rcases hq with ⟨hq, q⟩ | ⟨hq, q⟩
    · obtain ⟨its, rv, p', hz⟩ := I1.list hq
      refine call_enum1 (begins_list a its.toArray) p'.isList fun h' he hit hsz hk => wpAny_pyIter_enum he ?_
      have I2 : Inv X pins σ H1 { s1 with heap := h' } := I1.kept (t' := s1.toks) hk
      exact ⟨s1.heap.objs.size + 1, [s1.heap.objs.size + 1, s1.heap.objs.size], _, _, H1, rfl, I2, turn_enum a (s1.heap.objs.size + 1) s1.heap.objs.size, ⟨⟨.none, he⟩, ⟨_, hit, rfl, rfl⟩, Nat.succ_ne_self _⟩, fps, q⟩
    · obtain ⟨its, rv, p', hz⟩ := I1.tuple hq
      have la : a < s1.heap.objs.size := by obtain ⟨_, z, _⟩ := p'; exact Heap.lt_size z
      refine call_enum1 (begins_tuple a its.toArray) p' fun h' he hit hsz hk => wpAny_pyIter_enum he ?_
      have I2 : Inv X pins σ H1 { s1 with heap := h' } := I1.kept (t' := s1.toks) hk
      exact ⟨s1.heap.objs.size + 1, [s1.heap.objs.size + 1, s1.heap.objs.size], _, _, H1, rfl, I2, turn_enumT a (s1.heap.objs.size + 1) s1.heap.objs.size, ⟨⟨.none, he⟩, ⟨_, hit, rfl, rfl⟩, Nat.succ_ne_self _, Nat.ne_of_lt la, Nat.ne_of_lt (Nat.lt_succ_of_lt la)⟩, fps, q⟩
end Mi

set_option Elab.async false
set_option linter.all false
set_option maxRecDepth 100000
set_option maxHeartbeats 2000000
/-! Mi11: statements. -/
namespace Mi
open PySem L2
def notTuple : Expr → Bool
  | .Tuple _ _ _ => false
  | _ => true
def isComp : E → Bool
  | .comp .. => true
  | .comp1 .. => true
  | .comp2 .. => true
  | _ => false
def isCompA : E → Bool
  | .apE _ A => isComp A
  | A => isComp A
def augOp : Bop → Option Operator
  | .add => some .Add
  | .sub => some .Sub
  | _ => none
/-- further words, by a step -/
def okSW (T : Tab) (sc : Scope) (N : List Str) (f : Expr → E → Bool) (g : List Stmt → Ss → Bool) (s : Stmt) (A : S) : Bool := match A with
  | .nput P I B => (match s with
    | .Assign [.Subscript o i _] e _ => notSlice i && notComp e && f o P && f i I && f e B
    | _ => false)
  | .unpL is B => (match s with
    | .Assign [.Tuple ts _ _] e _ => namesB sc N ts is && notTuple e && notComp e && f e B
    | _ => false)
  | .augF c P h o B => (match s with
    | .AugAssign (.Attribute p q _) op e _ => decide (q = h) && T.flds.contains (c, h) && decide (augOp o = some op) && f p P && f e B
    | _ => false)
  | .augI P I o B => (match s with
    | .AugAssign (.Subscript p i _) op e _ => notSlice i && decide (augOp o = some op) && f p P && f i I && f e B
    | _ => false)
  | .tput P I B => (match s with
    | .Assign [.Subscript o i _] e _ => notSlice i && notComp e && f o P && f i I && f e B
    | _ => false)
  | .for_ is (.keys A) B => (match s with
    | .For tg it b [] _ => tgB sc N tg is && noSet it && f it A && g b B
    | _ => false)
  | .for_ is (.range3 A A2 A3) B => (match s with
    | .For tg (.Call (.Name x _) [a, b, c] [] _) bd [] _ => decide (x = "range") && glB sc x && notStar a && notStar b && notStar c && tgB sc N tg is && f a A && f b A2 && f c A3 && g bd B
    | _ => false)
  | _ => false
mutual
def okS (T : Tab) (G : List (Str × D)) (sc : Scope) (N : List Str) : Nat → Stmt → S → Bool
  | 0, _, _ => false
  | n + 1, s, A => okSW T sc N (okE T G sc N 30) (fun ss As => okSs T G sc N n ss As) s A || match s, A with
    | _, .bad => true
    | .Expr e _, .expr B => notComp e && okE T G sc N 30 e B
    | .Assign [.Name x px] (.ListComp elt gs sc2 lp) _, .asg i B => decide (N[i]? = some x) && decide (sc.names.lookup x = some .local) && (px.line == lp.line) && !(sc2.names.any fun (n, k) => n == x && (k == .local || k == .cell)) && isCompA B && okE T G sc N 30 (.ListComp elt gs sc2 lp) B
    | .Assign [.Name x _] e _, .asg i B => decide (N[i]? = some x) && locB sc x && notComp e && okE T G sc N 30 e B
    | .Assign [.Tuple ts _ _] (.Tuple vs _ _) _, .par is Bs => namesB sc N ts is && okEs T G sc N 30 vs Bs && (match ts, is, vs with
      | [.Name x _, .Name y _], [i, j], [_, _] => (match swF sc ts vs with
        | some none => true
        | some (some l) => decide (l = [x, y]) && decide (i ≠ j) && decide (sc.names.lookup x = some .local) && decide (sc.names.lookup y = some .local)
        | none => false)
      | [.Name x _, .Name y _, .Name z _], [i, j, l], [_, _, _] => (match swF sc ts vs with
        | some none => true
        | some (some m) => decide (m = [x, y, z]) && decide (i ≠ j) && decide (i ≠ l) && decide (j ≠ l) && decide (sc.names.lookup x = some .local) && decide (sc.names.lookup y = some .local) && decide (sc.names.lookup z = some .local)
        | none => false)
      | _ :: _ :: _, _ :: _ :: _, _ => decide (swF sc ts vs = some none) && decide (is.length ≤ 100)
      | _, _, _ => false)
    | .Assign [.Tuple ts _ _] e _, .unp is B => namesB sc N ts is && notTuple e && notComp e && decide (2 ≤ is.length) && okE T G sc N 30 e B
    | .Assign [.Attribute o f _] e _, .setF c P g B => decide (f = g) && T.flds.contains (c, g) && okE T G sc N 30 o P && okE T G sc N 30 e B
    | .Assign [.Subscript o i _] e _, .setI P I B => notSlice i && notComp e && okE T G sc N 30 o P && okE T G sc N 30 i I && okE T G sc N 30 e B
    | .AugAssign (.Name x _) op e _, .aug i o B => decide (N[i]? = some x) && locB sc x && decide (augOp o = some op) && okE T G sc N 30 e B
    | .Return (some e) _, .ret B => okE T G sc N 30 e B
    | .Return none _, .retN => true
    | .If c a b _, .ite B P Q => okE T G sc N 30 c B && okSs T G sc N n a P && okSs T G sc N n b Q
    | .For tg it b [] _, .for_ is (.seq A) B => tgB sc N tg is && noSet it && okE T G sc N 30 it A && okSs T G sc N n b B
    | .For tg (.Call (.Name x _) [e] [] _) b [] _, .for_ is (.range1 A) B => decide (x = "range") && glB sc x && notStar e && tgB sc N tg is && okE T G sc N 30 e A && okSs T G sc N n b B
    | .For tg (.Call (.Name x _) [e, f] [] _) b [] _, .for_ is (.range2 A A2) B => decide (x = "range") && glB sc x && notStar e && notStar f && tgB sc N tg is && okE T G sc N 30 e A && okE T G sc N 30 f A2 && okSs T G sc N n b B
    | .For (.Tuple ts kk tp) (.Call (.Name x _) [e] [] _) b [] _, .for_ is (.enum A) B => decide (x = "enumerate") && glB sc x && notStar e && tgB sc N (.Tuple ts kk tp) is && okE T G sc N 30 e A && okSs T G sc N n b B
    | .While c b [] _, .wh A B => okE T G sc N 30 c A && okSs T G sc N n b B
    | .Raise (some (.Call (.Name x _) as [] _)) none _, .raise c Bs => T.clsN.contains (x, c) && glB sc x && noStars as && okEs T G sc N 30 as Bs
    | .Try b (h :: hds) [] [] _, .try_ B Hs => okSs T G sc N n b B && okHs T sc N (h :: hds) Hs
    | .Break _, .brk => true
    | .Pass _, .pass => true
    | _, _ => false
def okSs (T : Tab) (G : List (Str × D)) (sc : Scope) (N : List Str) : Nat → List Stmt → Ss → Bool
  | 0, _, _ => false
  | n + 1, ss, As => match ss, As with
    | [], .nil => true
    | s :: ss, .cons A As => okS T G sc N n s A && okSs T G sc N n ss As
    | _, _ => false
end
/-! ### loops -/
section
variable {X : Cx} {C : Cl} {F : Fns} {W : WX} {tg : Expr}
end
section
variable {K : PySem.W.Frag} {C : Cl} {F : Fns} {W : WX} {is : List Nat} {B : Ss} {D : Ends}
theorem forI_turn {set : En → Mi.D → Option En} {b : En → List O → OS} {d : Mi.D} {ds : List Mi.D} {ρ : List Addr} {H : Hp} {en : En} {h : List O} (p : PostS K C ρ H (forI set b (d :: ds) en h) D W) :
    ∃ en2, set en d = some en2 ∧ PostS K C ρ H (b en2 h) { D with nx := after K C W D ρ H (forI set b ds), ct := after K C W D ρ H (forI set b ds), bk := D.nx } W := by
  unfold forI at p
  split at p
  · rename_i en2 e
    exact ⟨en2, e, PostS.turn p⟩
  · exact noS p
/-- a loop over data that stays -/
def Pv (K : PySem.W.Frag) (C : Cl) (F : Fns) (W : WX) (is : List Nat) (B : Ss) (D : Ends) (ρ0 : List Addr) (H0 : Hp) (ds : List Mi.D) (i : Nat) : St → Hp → Prop := fun σ H =>
  ∃ ρ h en, Fr ρ0 H0 ρ H ∧ RelH K C ρ H h ∧ RelE K C ρ H σ en ∧ PostS K C ρ H (forI (setT is) (evSs F B) (ds.drop i) en h) D W
theorem pv_turn {ρ0 : List Addr} {H0 : Hp} {ds : List Mi.D} {i : Nat} {σ : St} {H : Hp} {d : Mi.D} {x : V} (hd : ds[i]? = some d) (r : ∀ ρ, Fr ρ0 H0 ρ H → Rep K C ρ H d x) (p : Pv K C F W is B D ρ0 H0 ds i σ H) :
    gT K is x σ H fun σ2 H2 => tSs K C F W B { D with nx := Pv K C F W is B D ρ0 H0 ds (i + 1), ct := Pv K C F W is B D ρ0 H0 ds (i + 1), bk := D.nx } σ2 H2 := by
  obtain ⟨ρ, h, en, f, R, RE, p⟩ := p
  have hi : i < ds.length := (List.getElem?_eq_some_iff.mp hd).1
  have e : ds.drop i = d :: ds.drop (i + 1) := by
    rw [List.drop_eq_getElem_cons hi]
    rw [(List.getElem?_eq_some_iff.mp hd).2]
  rw [e] at p
  obtain ⟨en2, h2, p2⟩ := forI_turn p
  refine setT_ok RE (r ρ f) h2 fun σ' RE' => ⟨ρ, h, en2, R, RE', ?_⟩
  have up : ∀ σ' H', after K C W D ρ H (forI (setT is) (evSs F B) (ds.drop (i + 1))) σ' H' → Pv K C F W is B D ρ0 H0 ds (i + 1) σ' H' := fun σ' H' ⟨ρ', h', en', f', R', RE', p'⟩ => ⟨ρ', h', en', f.trans f', R', RE', p'⟩
  cases q : evSs F B en2 h with
  | nx en3 h3 => rw [q] at p2; exact fun ρ' H' σ' a b c => up _ _ (p2 ρ' H' σ' a b c)
  | rt d h3 => rw [q] at p2; exact p2
  | bk en3 h3 => rw [q] at p2; exact p2
  | ex x en3 h3 => rw [q] at p2; exact p2
  | stuck => rw [q] at p2; exact p2
theorem pv_end {ρ0 : List Addr} {H0 : Hp} {ds : List Mi.D} {σ : St} {H : Hp} (p : Pv K C F W is B D ρ0 H0 ds ds.length σ H) : D.nx σ H := by
  obtain ⟨ρ, h, en, f, R, RE, p⟩ := p
  rw [List.drop_length] at p
  exact PostS.nx_ R RE p
/-- a loop over a list that may change -/
theorem forL_turn {set : En → Mi.D → Option En} {b : En → List O → OS} {j n k : Nat} {ρ : List Addr} {H : Hp} {en : En} {h : List O} {ds : List Mi.D} (hj : h[j]? = some (.lst ds)) (p : PostS K C ρ H (forL j set b (n + 1) k en h) D W) :
    (ds[k]? = none ∧ PostS K C ρ H (.nx en h) D W) ∨ ∃ d en2, ds[k]? = some d ∧ set en d = some en2 ∧ PostS K C ρ H (b en2 h) { D with nx := after K C W D ρ H (forL j set b n (k + 1)), ct := after K C W D ρ H (forL j set b n (k + 1)), bk := D.nx } W := by
  unfold forL at p
  simp only [hj] at p
  cases q : ds[k]? with
  | none => simp only [q] at p; exact .inl ⟨rfl, p⟩
  | some d =>
    simp only [q] at p
    cases q2 : set en d with
    | none => simp only [q2] at p; exact noS p
    | some en2 => simp only [q2] at p; exact .inr ⟨d, en2, rfl, q2, PostS.turn p⟩
theorem forL_for {j n : Nat} {a : Addr} : ∀ {ρ : List Addr} {H : Hp} {σ : St} {en : En} {h : List O}, RelH K C ρ H h → RelE K C ρ H σ en → ρ[j]? = some a → PostS K C ρ H (forL j (setT is) (evSs F B) n 0 en h) D W →
    ∃ Wv : Nat → Nat → St → Hp → Prop, (∃ m, Wv 0 m σ H) ∧ ∀ i m σ H, Wv i m σ H →
      ((Itl K a).stop i H ∧ D.nx σ H) ∨ ((Itl K a).go i H ∧ ∃ N : St → Hp → Prop, (∀ σ' H', N σ' H' → ∃ m', m' < m ∧ Wv (i + 1) m' σ' H') ∧ ∀ x H', (Itl K a).yld i H x H' → gT K is x σ H' fun σ2 H2 => tSs K C F W B { D with nx := N, ct := N, bk := D.nx } σ2 H2) := by
  intro ρ H σ en h R RE ha p
  refine ⟨fun i m σ H => ∃ ρ h en, RelH K C ρ H h ∧ RelE K C ρ H σ en ∧ ρ[j]? = some a ∧ PostS K C ρ H (forL j (setT is) (evSs F B) m i en h) D W, ⟨n, ρ, h, en, R, RE, ha, p⟩, ?_⟩
  rintro i m σ H ⟨ρ, h, en, R, RE, ha, p⟩
  cases m with
  | zero => exact noS p
  | succ m =>
    cases hj : h[j]? with
    | none => unfold forL at p; simp only [hj] at p; exact noS p
    | some o =>
      cases o with
      | lst ds =>
        obtain ⟨vs, hH, r⟩ := at_lst R hj ha
        rcases forL_turn hj p with ⟨e, p⟩ | ⟨d, en2, e, h2, p⟩
        · exact .inl ⟨⟨vs, SqL.of hH, by rw [r.length]; exact List.getElem?_eq_none_iff.mp e⟩, PostS.nx_ R RE p⟩
        · obtain ⟨v, hv, rv⟩ := r.get e
          refine .inr ⟨⟨vs, v, SqL.of hH, hv⟩, after K C W D ρ H (forL j (setT is) (evSs F B) m (i + 1)), fun σ' H' ⟨ρ', h', en', f', R', RE', p'⟩ => ⟨m, Nat.lt_succ_self m, ρ', h', en', R', RE', ?_, p'⟩, fun x H' y => ?_⟩
          · obtain ⟨new, rfl, _⟩ := f'.ext
            rw [List.getElem?_append_left (List.getElem?_eq_some_iff.mp ha).1]; exact ha
          · obtain ⟨e1, y⟩ := y
            subst e1
            have ex := y vs (SqL.of hH)
            rw [hv] at ex; cases ex
            exact setT_ok RE rv h2 fun σ' RE' => ⟨ρ, h, en2, R, RE', p⟩
      | _ => unfold forL at p; simp only [hj] at p; exact noS p
/-- the same, by place and item -/
theorem forLE_turn {set : En → Mi.D → Option En} {b : En → List O → OS} {j n k : Nat} {ρ : List Addr} {H : Hp} {en : En} {h : List O} {ds : List Mi.D} (hj : h[j]? = some (.lst ds)) (p : PostS K C ρ H (forLE j set b (n + 1) k en h) D W) :
    (ds[k]? = none ∧ PostS K C ρ H (.nx en h) D W) ∨ ∃ d en2, ds[k]? = some d ∧ set en (.tup [.int (k : Nat), d]) = some en2 ∧ PostS K C ρ H (b en2 h) { D with nx := after K C W D ρ H (forLE j set b n (k + 1)), ct := after K C W D ρ H (forLE j set b n (k + 1)), bk := D.nx } W := by
  unfold forLE at p
  simp only [hj] at p
  cases q : ds[k]? with
  | none => simp only [q] at p; exact .inl ⟨rfl, p⟩
  | some d =>
    simp only [q] at p
    cases q2 : set en (.tup [.int (k : Nat), d]) with
    | none => simp only [q2] at p; exact noS p
    | some en2 => simp only [q2] at p; exact .inr ⟨d, en2, rfl, q2, PostS.turn p⟩
theorem forLE_for {j n : Nat} {a : Addr} : ∀ {ρ : List Addr} {H : Hp} {σ : St} {en : En} {h : List O}, RelH K C ρ H h → RelE K C ρ H σ en → ρ[j]? = some a → PostS K C ρ H (forLE j (setT is) (evSs F B) n 0 en h) D W →
    ∃ Wv : Nat → Nat → St → Hp → Prop, (∃ m, Wv 0 m σ H) ∧ ∀ i m σ H, Wv i m σ H →
      ((Ite K a).stop i H ∧ D.nx σ H) ∨ ((Ite K a).go i H ∧ ∃ N : St → Hp → Prop, (∀ σ' H', N σ' H' → ∃ m', m' < m ∧ Wv (i + 1) m' σ' H') ∧ ∀ x H', (Ite K a).yld i H x H' → gT K is x σ H' fun σ2 H2 => tSs K C F W B { D with nx := N, ct := N, bk := D.nx } σ2 H2) := by
  intro ρ H σ en h R RE ha p
  refine ⟨fun i m σ H => ∃ ρ h en, RelH K C ρ H h ∧ RelE K C ρ H σ en ∧ ρ[j]? = some a ∧ PostS K C ρ H (forLE j (setT is) (evSs F B) m i en h) D W, ⟨n, ρ, h, en, R, RE, ha, p⟩, ?_⟩
  rintro i m σ H ⟨ρ, h, en, R, RE, ha, p⟩
  cases m with
  | zero => exact noS p
  | succ m =>
    cases hj : h[j]? with
    | none => unfold forLE at p; simp only [hj] at p; exact noS p
    | some o =>
      cases o with
      | lst ds =>
        obtain ⟨vs, hH, r⟩ := at_lst R hj ha
        rcases forLE_turn hj p with ⟨e, p⟩ | ⟨d, en2, e, h2, p⟩
        · exact .inl ⟨⟨vs, SqL.of hH, by rw [r.length]; exact List.getElem?_eq_none_iff.mp e⟩, PostS.nx_ R RE p⟩
        · obtain ⟨v, hv, rv⟩ := r.get e
          refine .inr ⟨⟨vs, v, SqL.of hH, hv⟩, after K C W D ρ H (forLE j (setT is) (evSs F B) m (i + 1)), fun σ' H' ⟨ρ', h', en', f', R', RE', p'⟩ => ⟨m, Nat.lt_succ_self m, ρ', h', en', R', RE', ?_, p'⟩, fun x H' y => ?_⟩
          · obtain ⟨new, rfl, _⟩ := f'.ext
            rw [List.getElem?_append_left (List.getElem?_eq_some_iff.mp ha).1]; exact ha
          · obtain ⟨T, x', rfl, hT, rfl, y⟩ := y
            have ex := y vs (SqL.of hH)
            rw [hv] at ex; cases ex
            have f : Fr ρ H ρ (upd H T (.tup [.int (i : Nat), v])) := Fr.new hT
            refine setT_ok (RE.mono f) (rep_tup.mpr ⟨T, _, rfl, .inl ⟨.inl upd_same, R.notin hT⟩, Reps.cons (rep_int.mpr rfl) (Reps.cons (rv.mono f) Reps.nil)⟩) h2 fun σ' RE' => ⟨ρ, h, en2, R.new hT, RE', PostS.from_ f p⟩
      | _ => unfold forLE at p; simp only [hj] at p; exact noS p
theorem enumD_get : ∀ (ds : List Mi.D) (k i : Nat) (d : Mi.D), ds[i]? = some d → (enumD k ds)[i]? = some (.tup [.int ((k + i : Nat) : Int), d])
  | [], _, _, _, e => by cases e
  | a :: ds, k, 0, d, e => by cases e; rfl
  | a :: ds, k, i + 1, d, e => by
    have := enumD_get ds (k + 1) i d (by simpa using e)
    rw [show k + 1 + i = k + (i + 1) by omega] at this
    exact this
theorem enumD_len : ∀ (ds : List Mi.D) (k : Nat), (enumD k ds).length = ds.length
  | [], _ => rfl
  | _ :: ds, k => by rw [enumD, List.length_cons, List.length_cons, enumD_len ds]
theorem pe_turn {ρ0 : List Addr} {H0 : Hp} {ds : List Mi.D} {i : Nat} {σ : St} {H : Hp} {d : Mi.D} {x : V} {T : Addr} (hd : ds[i]? = some d) (r : ∀ ρ, Fr ρ0 H0 ρ H → Rep K C ρ H d x) (hT : H T = none) (p : Pv K C F W is B D ρ0 H0 (enumD 0 ds) i σ H) :
    gT K is (.ref T) σ (upd H T (.tup [.int (i : Nat), x])) fun σ2 H2 => tSs K C F W B { D with nx := Pv K C F W is B D ρ0 H0 (enumD 0 ds) (i + 1), ct := Pv K C F W is B D ρ0 H0 (enumD 0 ds) (i + 1), bk := D.nx } σ2 H2 := by
  obtain ⟨ρ, h, en, f, R, RE, p⟩ := p
  have hd2 := enumD_get ds 0 i d hd
  rw [Nat.zero_add] at hd2
  have hi : i < (enumD 0 ds).length := (List.getElem?_eq_some_iff.mp hd2).1
  have e : (enumD 0 ds).drop i = .tup [.int (i : Nat), d] :: (enumD 0 ds).drop (i + 1) := by
    rw [List.drop_eq_getElem_cons hi]
    rw [(List.getElem?_eq_some_iff.mp hd2).2]
  rw [e] at p
  obtain ⟨en2, h2, p2⟩ := forI_turn p
  have fn : Fr ρ H ρ (upd H T (.tup [.int (i : Nat), x])) := Fr.new hT
  have up : ∀ σ' H', after K C W D ρ H (forI (setT is) (evSs F B) ((enumD 0 ds).drop (i + 1))) σ' H' → Pv K C F W is B D ρ0 H0 (enumD 0 ds) (i + 1) σ' H' := fun σ' H' ⟨ρ', h', en', f', R', RE', p'⟩ => ⟨ρ', h', en', f.trans f', R', RE', p'⟩
  have p3 : PostS K C ρ H (evSs F B en2 h) { D with nx := Pv K C F W is B D ρ0 H0 (enumD 0 ds) (i + 1), ct := Pv K C F W is B D ρ0 H0 (enumD 0 ds) (i + 1), bk := D.nx } W := by
    cases q : evSs F B en2 h with
    | nx en3 h3 => rw [q] at p2; exact fun ρ' H' σ' a b c => up _ _ (p2 ρ' H' σ' a b c)
    | rt d h3 => rw [q] at p2; exact p2
    | bk en3 h3 => rw [q] at p2; exact p2
    | ex x en3 h3 => rw [q] at p2; exact p2
    | stuck => rw [q] at p2; exact p2
  exact setT_ok (RE.mono fn) (rep_tup.mpr ⟨T, _, rfl, .inl ⟨.inl upd_same, R.notin hT⟩, Reps.cons (rep_int.mpr rfl) (Reps.cons ((r ρ f).mono fn) Reps.nil)⟩) h2 fun σ' RE' => ⟨ρ, h, en2, R.new hT, RE', PostS.from_ fn p3⟩
theorem enumT_for {a : Addr} {ds : List Mi.D} {vs : List V} {ρ : List Addr} {H : Hp} {σ : St} {en : En} {h : List O} (R : RelH K C ρ H h) (RE : RelE K C ρ H σ en) (sq : ∀ ρ' H', Fr ρ H ρ' H' → SqT K H' a vs) (r : Reps K C ρ H ds vs) (p : PostS K C ρ H (forI (setT is) (evSs F B) (enumD 0 ds) en h) D W) :
    ∃ Wv : Nat → Nat → St → Hp → Prop, (∃ m, Wv 0 m σ H) ∧ ∀ i m σ H, Wv i m σ H →
      ((Iet K a).stop i H ∧ D.nx σ H) ∨ ((Iet K a).go i H ∧ ∃ N : St → Hp → Prop, (∀ σ' H', N σ' H' → ∃ m', m' < m ∧ Wv (i + 1) m' σ' H') ∧ ∀ x H', (Iet K a).yld i H x H' → gT K is x σ H' fun σ2 H2 => tSs K C F W B { D with nx := N, ct := N, bk := D.nx } σ2 H2) := by
  refine ⟨fun i m σ' H' => i + m = ds.length ∧ Pv K C F W is B D ρ H (enumD 0 ds) i σ' H', ⟨ds.length, by omega, ρ, h, en, Fr.refl _ _, R, RE, p⟩, ?_⟩
  rintro i m σ2 H2 ⟨hm, pv⟩
  have sq2 : SqT K H2 a vs := by
    obtain ⟨ρ', h', en', f', _⟩ := id pv
    exact sq _ _ f'
  have lv : vs.length = ds.length := r.length
  cases m with
  | zero =>
    refine .inl ⟨⟨vs, sq2, by omega⟩, ?_⟩
    have ei : i = (enumD 0 ds).length := by rw [enumD_len]; omega
    rw [ei] at pv
    exact pv_end pv
  | succ m =>
    have hi : i < ds.length := by omega
    obtain ⟨x, hx, rx⟩ := r.get (List.getElem?_eq_getElem hi)
    refine .inr ⟨⟨vs, x, sq2, hx⟩, _, fun σ' H' q => ⟨m, Nat.lt_succ_self m, by omega, q⟩, fun y H' yl => ?_⟩
    obtain ⟨T, x', rfl, hT, rfl, hy⟩ := yl
    have ex := hy vs sq2
    rw [hx] at ex; cases ex
    exact pe_turn (List.getElem?_eq_getElem hi) (fun ρ' f' => rx.mono f') hT pv
end
end Mi

set_option Elab.async false
set_option linter.all false
set_option maxRecDepth 100000
set_option maxHeartbeats 2000000
/-! Mi12: statements do what their texts do here. -/
namespace Mi
open PySem L2
section
variable {T : Tab} {C : Cl} {F : Fns} {k : Nat} {sc : Scope} {N : List Str} {X : Cx} {W : WX}
theorem kvs_put {K : PySem.W.Frag} {ρ : List Addr} {H : Hp} {f : Str} {d : D} {v : V} (r : Rep K C ρ H d v) : ∀ {fs : List (Str × D)} {gs : List (Str × V)}, KVs K C ρ H fs gs → KVs K C ρ H (putD f d fs) (putF f v gs)
  | [], _, .nil => .cons ⟨rfl, r⟩ .nil
  | (g, e) :: fs, (g', w) :: gs, .cons ⟨h1, h2⟩ t => by
    have h1' : g = g' := h1
    subst h1'
    unfold putD putF
    split
    · exact .cons ⟨rfl, r⟩ t
    · exact .cons ⟨rfl, h2⟩ (kvs_put r t)
theorem kvs_len {κ : Type} {K : PySem.W.Frag} {ρ : List Addr} {H : Hp} {fs : List (κ × D)} {gs : List (κ × V)} (h : KVs K C ρ H fs gs) : gs.length = fs.length := (Paired.length h).symm
/-- a call of an exception's class -/
def tXc (C : Cl) (cn : Nat) (ns : List Str) (ta : TA) : St → Hp → XK → Prop := fun σ H Q => ta σ H fun vs H1 => vs.length = ns.length ∧ (∀ v ∈ vs, XArg v) ∧
  ∀ dd H', (∀ b o, H1 b = some o → H' b = some o) → (∀ b, H' b = none → H1 b = none) → (ns = [] ∧ dd = none ∨ ∃ d gs, dd = some d ∧ H' d = some (.xd gs) ∧ ∀ f v, (ns.zip vs).lookup f = some v → gs.lookup f = some v) → Q (.ref (C.at_ cn)) dd H'
theorem pmk_call {x : Str} {cn : Nat} {ns : List Str} {a : Expr} {as : List Expr} {ta : TA} {p q : Pos} (g1 : Gl X x) (g2 : (x == ("__debug__" : Str)) = false) (hm : X.mg x = some (.ref (C.at_ cn))) (kp : PySem.W.keepIn X.K (.ref (C.at_ cn)) = true) (hc : XcCall X C cn ns)
    (h1 : notStar a = true) (h3 : noStars as = true) (hA : PA X (a :: as) ta) : PMk X (.Call (.Name x p) (a :: as) [] q) (tXc C cn ns ta) := by
  intro pins s σ H Q I z
  refine wpAny_Call_Name_kw (ld_glob I g1 hm ?_ g2)
  refine PySem.W.callWith_K (h₀ := X.base) I.ok.mod.kin kp (thn (hA.run q pins s σ H _ I z) fun us s1 ⟨vs, H1, I1, r, hl, hx, z1⟩ => ⟨I1.kIn, ?_⟩) (star_of h1) (noStars_any h3)
  exact hc pins s1 σ H1 vs us Q I1 r hl hx z1
theorem pmk_call0 {x : Str} {cn : Nat} {ns : List Str} {p q : Pos} (g1 : Gl X x) (g2 : (x == ("__debug__" : Str)) = false) (hm : X.mg x = some (.ref (C.at_ cn))) (kp : PySem.W.keepIn X.K (.ref (C.at_ cn)) = true) (hc : XcCall X C cn ns) :
    PMk X (.Call (.Name x p) [] [] q) (tXc C cn ns tNil) := by
  intro pins s σ H Q I ⟨hl, hx, z⟩
  refine wpAny_Call_Name_kw (ld_glob I g1 hm ?_ g2)
  exact PySem.W.callWith_K0 I.kIn kp (hc pins s σ H [] [] Q I .nil hl hx z)
theorem zip_look {K : PySem.W.Frag} {ρ : List Addr} {H : Hp} {f : Str} {e : D} : ∀ {ns : List Str} {ds : List D} {vs : List V}, Reps K C ρ H ds vs → (ns.zip ds).lookup f = some e → ∃ v, (ns.zip vs).lookup f = some v ∧ Rep K C ρ H e v
  | [], ds, vs, _, h => by simp at h
  | n :: ns, [], vs, _, h => by simp at h
  | n :: ns, d :: ds, vs, r, h => by
    rw [Reps] at r
    obtain ⟨v, us, rfl, a, b⟩ := r
    simp only [List.zip_cons_cons, List.lookup] at h ⊢
    cases hb : (f == n) with
    | true => rw [hb] at h; cases h; exact ⟨v, rfl, a⟩
    | false => rw [hb] at h; exact zip_look b h
theorem xarg_flat {d : D} (h : xargD d = true) : flatD d = true := by
  cases d <;> first | rfl | cases h
theorem xarg_v {K : PySem.W.Frag} {ρ : List Addr} {H : Hp} : ∀ {ds : List D} {vs : List V}, ds.all xargD = true → Reps K C ρ H ds vs → ∀ v ∈ vs, XArg v
  | [], vs, _, r, v, hv => by rw [Reps] at r; subst r; cases hv
  | d :: ds, vs, h, r, v, hv => by
    rw [Reps] at r
    obtain ⟨u, us, rfl, a, b⟩ := r
    simp only [List.all_cons, Bool.and_eq_true] at h
    rcases List.mem_cons.mp hv with rfl | hv
    · cases d with
      | str y => cases rep_str.mp a; exact .inl ⟨y, rfl, of_decide_eq_true h.1⟩
      | int i => cases rep_int.mp a; exact .inr ⟨i, rfl, of_decide_eq_true h.1⟩
      | _ => cases h.1
    · exact xarg_v h.2 b v hv
theorem zip_all {ns : List Str} {ds : List D} {f : Str} {e : D} (hf : ds.all xargD = true) (h : (ns.zip ds).lookup f = some e) : flatD e = true := by
  induction ns generalizing ds with
  | nil => simp at h
  | cons n ns ih =>
    cases ds with
    | nil => simp at h
    | cons d ds =>
      simp only [List.all_cons, Bool.and_eq_true] at hf
      simp only [List.zip_cons_cons, List.lookup] at h
      cases hb : (f == n) with
      | true => rw [hb] at h; cases h; exact xarg_flat hf.1
      | false => rw [hb] at h; exact ih hf.2 h
theorem rep_flat {K : PySem.W.Frag} {ρ : List Addr} {H : Hp} {e : D} {v : V} (h : flatD e = true) (r : Rep K C ρ H e v) (ρ2 : List Addr) (H2 : Hp) : Rep K C ρ2 H2 e v := by
  cases e with
  | non => exact rep_non.mpr (rep_non.mp r)
  | bl b => exact rep_bl.mpr (rep_bl.mp r)
  | int i => exact rep_int.mpr (rep_int.mp r)
  | str s => exact rep_str.mpr (rep_str.mp r)
  | _ => cases h
theorem pure_flat {d : D} (h : flatD d = true) : pureD d = true := by
  cases d <;> first | rfl | cases h
theorem xc_end {Dn : Ends} {σ : St} {ρ : List Addr} {H : Hp} {h : List O} {en : En} {cn : Nat} {ns : List Str} {ds : List D} {vs : List V} (hx : F.xc[cn]? = some ns) (R : RelH X.K C ρ H h) (RE : RelE X.K C ρ H σ en) (r : Reps X.K C ρ H ds vs)
    (z : PostS X.K C ρ H (match mkX F cn ds with
      | some x => OS.ex x en h
      | none => OS.stuck) Dn W) : vs.length = ns.length ∧ (∀ v ∈ vs, XArg v) ∧ ∀ dd H', (∀ b o, H b = some o → H' b = some o) → (∀ b, H' b = none → H b = none) → (ns = [] ∧ dd = none ∨ ∃ d gs, dd = some d ∧ H' d = some (.xd gs) ∧ ∀ f v, (ns.zip vs).lookup f = some v → gs.lookup f = some v) → W (.ref (C.at_ cn)) dd σ H' := by
  unfold mkX at z
  simp only [hx] at z
  split at z
  · rename_i x hm
    split at hm
    · rename_i hl
      cases hm
      refine ⟨by rw [r.length]; exact hl.1.symm, xarg_v hl.2 r, fun dd H' k fr hd => ?_⟩
      have f : Fr ρ H ρ H' := ⟨fun b o e _ => k b o e, fr, ⟨[], by simp, by simp⟩, fun b o u e => k b _ e⟩
      have R' : RelH X.K C ρ H' h := R.mono f fun a ha => by
        obtain ⟨o, ro⟩ := R.there ha
        obtain ⟨u, e, _⟩ := ro.there
        rw [e, k a u e]
      refine z ρ H' σ _ dd f R' (RE.mono f) ⟨rfl, ?_⟩
      rcases hd with ⟨hd, hn⟩ | ⟨d, gs, e1, e2, e3⟩
      · left
        subst hd
        exact ⟨by simp, hn⟩
      · refine .inr ⟨d, gs, e1, e2, fun g e he => ?_⟩
        obtain ⟨v, h1, h2⟩ := zip_look (r.mono f) he
        exact ⟨v, e3 g v h1, rep_flat (zip_all hl.2 he) h2⟩
    · cases hm
  · exact noS z
theorem raise_ps (c : CtxS T C F k sc N X) (tk : Takes X W) {x : Str} {cn n : Nat} {as : List Expr} {Bs : Es} {p q pos : Pos} (h1 : (x, cn) ∈ T.clsN) (h2 : glB sc x = true) (h3 : noStars as = true) (hB : okEs T F.gl sc N n as Bs = true) (hA : PA X as (tAs X.K C F W Bs)) :
    PS X (.Raise (some (.Call (.Name x p) as [] q)) none pos) (tS X.K C F W (.raise cn Bs)) := by
  obtain ⟨g1, g2, g3⟩ := c.gl h2
  obtain ⟨ns, hx, hm, kp, hc0⟩ := c.xcs x cn h1
  have hc : XcCall X C cn ns := hc0 X _ rfl rfl rfl c.room
  cases as with
  | nil =>
    have eB : Bs = .nil := by
      cases n with
      | zero => cases hB
      | succ n => cases Bs <;> first | rfl | cases hB
    subst eB
    refine PS.weak (ps_raise c.calm tk (pmk_call0 g1 g2 hm kp hc)) fun D σ H ⟨ρ, h, en, R, RE, z⟩ => ?_
    rw [evS, evEs] at z
    exact xc_end hx R RE Reps.nil z
  | cons a as =>
    simp only [noStars, Bool.and_eq_true] at h3
    refine PS.weak (ps_raise c.calm tk (pmk_call g1 g2 hm kp hc h3.1 h3.2 hA)) fun D σ H ⟨ρ, h, en, R, RE, z⟩ => ?_
    rw [evS] at z
    exact ⟨ρ, h, en, R, RE, PostS.of RE z fun ds h1 ρ1 H1 vs f1 R1 RE1 r1 z1 => xc_end hx R1 RE1 r1 z1⟩
end
end Mi

set_option Elab.async false
set_option linter.all false
set_option maxRecDepth 100000
set_option maxHeartbeats 2000000
/-! Mi13: the theorem for statements. -/
namespace Mi
open PySem L2
section
variable {T : Tab} {C : Cl} {F : Fns} {k : Nat} {sc : Scope} {N : List Str} {X : Cx} {W : WX}
/-- one of two blocks -/
theorem branchS {A : E} {P Q : Ss} {D : Ends} {σ : St} {H : Hp} (z : tS X.K C F W (.ite A P Q) D σ H) : tIfS (tT X.K C F W A) (tSs X.K C F W P) (tSs X.K C F W Q) D σ H := by
  obtain ⟨ρ, h, en, R, RE, z⟩ := z
  rw [evS] at z
  refine ⟨ρ, h, en, R, RE, PostS.of (R := REq) RE z fun b h1 ρ1 H1 b' f1 R1 RE1 r1 z1 => ?_⟩
  subst r1
  cases b with
  | true => rw [if_pos rfl] at z1 ⊢; exact ⟨ρ1, h1, en, R1, RE1, z1⟩
  | false => rw [if_neg Bool.false_ne_true] at z1 ⊢; exact ⟨ρ1, h1, en, R1, RE1, z1⟩
theorem seqS {A : S} {P : Ss} {D : Ends} {σ : St} {H : Hp} (z : tSs X.K C F W (.cons A P) D σ H) : tSeq (tS X.K C F W A) (tSs X.K C F W P) D σ H := by
  obtain ⟨ρ, h, en, R, RE, z⟩ := z
  rw [evSs] at z
  exact ⟨ρ, h, en, R, RE, PostS.seq z (fun en1 h1 ρ1 H1 σ1 f1 R1 RE1 z1 => ⟨ρ1, h1, en1, R1, RE1, z1⟩) rfl rfl⟩
theorem whS {A : E} {B : Ss} {D : Ends} {σ : St} {H : Hp} (z : tS X.K C F W (.wh A B) D σ H) : tWhile (tT X.K C F W A) (tSs X.K C F W B) D σ H := by
  obtain ⟨ρ, h, en, R, RE, z⟩ := z
  rw [evS] at z
  refine ⟨fun n σ H => ∃ ρ h en, RelH X.K C ρ H h ∧ RelE X.K C ρ H σ en ∧ PostS X.K C ρ H (whI (evT F A) (evSs F B) n en h) D W, ⟨FUEL, ρ, h, en, R, RE, z⟩, ?_⟩
  rintro n σ H ⟨ρ, h, en, R, RE, z⟩
  cases n with
  | zero => exact noS z
  | succ n =>
    unfold whI at z
    refine ⟨ρ, h, en, R, RE, PostS.of (R := REq) RE z fun b h1 ρ1 H1 b' f1 R1 RE1 r1 z1 => ?_⟩
    subst r1
    cases b with
    | false => rw [if_neg Bool.false_ne_true] at z1 ⊢; exact PostS.nx_ R1 RE1 z1
    | true =>
      rw [if_pos rfl] at z1 ⊢
      refine ⟨after X.K C W D ρ1 H1 (whI (evT F A) (evSs F B) n), fun σ' H' ⟨ρ', h', en', f', R', RE', z'⟩ => ⟨n, Nat.lt_succ_self n, ρ', h', en', R', RE', z'⟩, ρ1, h1, en, R1, RE1, PostS.turn z1⟩
/-- stores -/
theorem setF_conv {A B : E} {f : Str} {y : Nat} {D : Ends} {σ : St} {H : Hp} (c : Ctx T C F k sc N X) (hf : (y, f) ∈ T.flds) (z : tS X.K C F W (.setF y A f B) D σ H) : sFld X.K (tE X.K C F W A) (tE X.K C F W B) f D σ H := by
  obtain ⟨ρ, h, en, R, RE, z⟩ := z
  rw [evS] at z
  refine ⟨ρ, h, en, R, RE, PostS.of RE z fun d h1 ρ1 H1 v f1 R1 RE1 r1 z1 => ?_⟩
  refine ⟨ρ1, h1, en, R1, RE1, PostS.of RE1 z1 fun x h2 ρ2 H2 w f2 R2 RE2 r2 z2 => ?_⟩
  obtain ⟨t1, t2⟩ := c.flds _ hf
  unfold setFI at z2
  cases x with
  | obj i =>
    cases q : h2[i]? with
    | none => simp only [q] at z2; exact noS z2
    | some o =>
      cases o with
      | ins y' fs =>
        simp only [q] at z2
        split at z2
        · rename_i hh e
          split at e
          · rename_i hc
            cases e
            obtain ⟨rfl, hl⟩ := hc
            obtain ⟨a, ha, rfl⟩ := rep_obj.mp r2
            obtain ⟨dx, gs, hH, kv⟩ := R2.at_ i a _ ha q
            have rv := r1.mono f2
            have fw : Fr ρ2 H2 ρ2 (upd H2 a (.ins (C.at_ y') dx (putF f v gs))) := Fr.wr (List.mem_of_getElem? ha) (nofr hH)
            refine ⟨a, C.at_ y', dx, gs, rfl, hH, t1, t2, by rw [kvs_len kv]; omega, ?_⟩
            exact z2 ρ2 _ σ fw (R2.wr (nofr hH) ha ⟨dx, _, upd_same, (kvs_put rv kv).mono fw⟩) (RE2.mono fw)
          · cases e
        · exact noS z2
      | _ => simp only [q] at z2; exact noS z2
  | _ => exact noS z2
theorem setI_conv {A I B : E} {D : Ends} {σ : St} {H : Hp} (z : tS X.K C F W (.setI A I B) D σ H) : tAsg (tE X.K C F W B) (gSub (tE X.K C F W A) (tE X.K C F W I) rSetL) D σ H := by
  obtain ⟨ρ, h, en, R, RE, z⟩ := z
  rw [evS] at z
  refine ⟨ρ, h, en, R, RE, PostS.of RE z fun d h1 ρ1 H1 v f1 R1 RE1 r1 z1 => ?_⟩
  refine ⟨ρ1, h1, en, R1, RE1, PostS.of RE1 z1 fun x h2 ρ2 H2 w f2 R2 RE2 r2 z2 => ?_⟩
  refine ⟨ρ2, h2, en, R2, RE2, PostS.of RE2 z2 fun y h3 ρ3 H3 u f3 R3 RE3 r3 z3 => ?_⟩
  unfold setII at z3
  cases x with
  | obj i =>
    cases y with
    | int j =>
      cases q : h3[i]? with
      | none => simp only [q] at z3; exact noS z3
      | some o =>
        cases o with
        | lst ds =>
          simp only [q] at z3
          cases e : ixN ds.length j with
          | none => simp only [e] at z3; exact noS z3
          | some m =>
            simp only [e] at z3
            cases rep_int.mp r3
            obtain ⟨a, vs, ha, rfl, hH, rl⟩ := obj_lst R3 q (r2.mono f3)
            have rv := (r1.mono f2).mono f3
            have fw : Fr ρ3 H3 ρ3 (upd H3 a (.lst (vs.set m v))) := Fr.wr (List.mem_of_getElem? ha) (nofr hH)
            refine ⟨a, vs, j, m, rfl, rfl, hH, by rw [rl.length]; exact e, ?_⟩
            exact z3 ρ3 _ σ fw (R3.wr (nofr hH) ha ⟨_, upd_same, (Reps.set m rl rv).mono fw⟩) (RE3.mono fw)
        | _ => simp only [q] at z3; exact noS z3
    | _ => exact noS z3
  | _ => exact noS z3
theorem nput_conv {A I B : E} {D : Ends} {σ : St} {H : Hp} (hP : C.prog = X.prog) (hW : C.w = X.w) (z : tS X.K C F W (.nput A I B) D σ H) : sNPut X (tE X.K C F W A) (tE X.K C F W I) (tE X.K C F W B) D σ H := by
  obtain ⟨ρ, h, en, R, RE, z⟩ := z
  rw [evS] at z
  refine ⟨ρ, h, en, R, RE, PostS.of RE z fun d h1 ρ1 H1 v f1 R1 RE1 r1 z1 => ?_⟩
  refine ⟨ρ1, h1, en, R1, RE1, PostS.of RE1 z1 fun x h2 ρ2 H2 w f2 R2 RE2 r2 z2 => ?_⟩
  refine ⟨ρ2, h2, en, R2, RE2, PostS.of RE2 z2 fun y h3 ρ3 H3 u f3 R3 RE3 r3 z3 => ?_⟩
  split at z3
  · rename_i i kvs kk hn
    split at z3
    · rename_i hl
      obtain ⟨a, b, xs, ha, rfl, rfl, hH, zz, kb⟩ := nd_at R3 hn (r2.mono f3) r3
      have rv := (r1.mono f2).mono f3
      have hH2 := hH
      rw [hP, hW] at hH2
      refine ⟨a, b, kk, xs, rfl, rfl, hH2, keys_n zz, kb.key, ?_, fun u hu => ?_⟩
      · rw [← Paired.length zz]; exact limLt hl
      · have fw : Fr ρ3 H3 ρ3 (upd H3 a (NObj X.prog X.w a (storedH xs kk b u))) := Fr.wr (List.mem_of_getElem? ha) (nofr hH (fun _ _ z => by unfold NObj at z; cases z))
        refine z3 ρ3 _ σ fw (R3.wr (nofr hH (fun _ _ z => by unfold NObj at z; cases z)) ha ⟨storedH xs kk b u, ?_, Paired.mapP (put_n kb hu rv zz) fun _ _ y => y.mono fw⟩) (RE3.mono fw)
        rw [hP, hW]; exact upd_same
    · exact noS z3
  · exact noS z3
theorem aug_ok {X : Cx} {o : Bop} {op : Operator} (h : augOp o = some op) : PIp X op (fun x y H Q => ∃ i j, x = .int i ∧ y = .int j ∧ ((o = .add ∧ Q (.int (i + j)) H) ∨ (o = .sub ∧ Q (.int (i - j)) H))) := by
  intro pins s σ H x y v u Q I r1 r2 ⟨i, j, e1, e2, z⟩
  rcases z with ⟨rfl, z⟩ | ⟨rfl, z⟩
  · cases h; exact ip_add pins s σ H x y v u Q I r1 r2 ⟨i, j, e1, e2, z⟩
  · cases h; exact ip_sub pins s σ H x y v u Q I r1 r2 ⟨i, j, e1, e2, z⟩
theorem aug_conv {o : Bop} {i : Nat} {B : E} {D : Ends} {σ : St} {H : Hp} (z : tS X.K C F W (.aug i o B) D σ H) :
    tAug i (tE X.K C F W B) (fun x y H Q => ∃ i j, x = .int i ∧ y = .int j ∧ ((o = .add ∧ Q (.int (i + j)) H) ∨ (o = .sub ∧ Q (.int (i - j)) H))) D σ H := by
  obtain ⟨ρ, h, en, R, RE, z⟩ := z
  rw [evS] at z
  split at z
  · rename_i x hx
    obtain ⟨v, e1, rv⟩ := RE.at_ _ _ hx
    refine ⟨v, e1, ρ, h, en, R, RE, PostS.of RE z fun y h1 ρ1 H1 w f1 R1 RE1 r1 z1 => ?_⟩
    unfold augI at z1
    split at z1
    · rename_i d hd
      split at hd
      · cases hd
        cases rep_int.mp rv
        cases rep_int.mp r1
        exact ⟨_, _, rfl, rfl, .inl ⟨rfl, PostS.nx_ R1 (RE1.set i (rep_int.mpr rfl)) z1⟩⟩
      · cases hd
        cases rep_int.mp rv
        cases rep_int.mp r1
        exact ⟨_, _, rfl, rfl, .inr ⟨rfl, PostS.nx_ R1 (RE1.set i (rep_int.mpr rfl)) z1⟩⟩
      · cases hd
    · exact noS z1
  · exact noS z
theorem unp_conv {is : List Nat} {B : E} {D : Ends} {σ : St} {H : Hp} (z : tS X.K C F W (.unp is B) D σ H) : tAsg (tE X.K C F W B) (gTup X.K is.length (gNames is)) D σ H := by
  obtain ⟨ρ, h, en, R, RE, z⟩ := z
  rw [evS] at z
  refine ⟨ρ, h, en, R, RE, PostS.of RE z fun d h1 ρ1 H1 v f1 R1 RE1 r1 z1 => ?_⟩
  split at z1
  · rename_i ds
    split at z1
    · rename_i en' e
      obtain ⟨p, vs, rfl, t, r⟩ := rep_tup.mp r1
      obtain ⟨l, z2⟩ := setAll_ok (N := []) RE1 r e
      exact ⟨p, vs, rfl, t.sq, l, l, PostS.nx_ R1 z2 z1⟩
    · exact noS z1
  · exact noS z1
theorem par_conv {is : List Nat} {Bs : Es} {D : Ends} {σ : St} {H : Hp} (hl : 1 ≤ is.length ∧ is.length ≤ 1000) (z : tS X.K C F W (.par is Bs) D σ H) : tAsg (tTup (tAs X.K C F W Bs)) (gTup X.K is.length (gNames is)) D σ H := by
  obtain ⟨ρ, h, en, R, RE, z⟩ := z
  rw [evS] at z
  refine ⟨ρ, h, en, R, RE, PostS.of RE z fun ds h1 ρ1 H1 vs f1 R1 RE1 r1 z1 => ?_⟩
  split at z1
  · rename_i en' e
    obtain ⟨l, z2⟩ := setAll_ok (N := []) RE1 r1 e
    refine ⟨by rw [l]; exact limOk (Nat.le_trans hl.2 (by decide)), fun p hp => ?_⟩
    have fn : Fr ρ1 H1 ρ1 (upd H1 p (.tup vs)) := Fr.new hp
    exact ⟨p, vs, rfl, SqT.of upd_same, l, l, z1 ρ1 _ _ fn (R1.new hp) (z2.mono fn)⟩
  · exact noS z1
theorem par2_conv {i j : Nat} {Bs : Es} {D : Ends} {σ : St} {H : Hp} (z : tS X.K C F W (.par [i, j] Bs) D σ H) : tPar i j (tAs X.K C F W Bs) D σ H := by
  obtain ⟨ρ, h, en, R, RE, z⟩ := z
  rw [evS] at z
  refine ⟨ρ, h, en, R, RE, PostS.of RE z fun ds h1 ρ1 H1 vs f1 R1 RE1 r1 z1 => ?_⟩
  split at z1
  · rename_i en' e
    obtain ⟨l, z2⟩ := setAll_ok (N := []) RE1 r1 e
    match vs, l, z2 with
    | [v, w], _, z2 => exact ⟨v, w, rfl, PostS.nx_ R1 z2 z1⟩
  · exact noS z1
theorem par3_conv {i j l : Nat} {Bs : Es} {D : Ends} {σ : St} {H : Hp} (z : tS X.K C F W (.par [i, j, l] Bs) D σ H) : tPar3 i j l (tAs X.K C F W Bs) D σ H := by
  obtain ⟨ρ, h, en, R, RE, z⟩ := z
  rw [evS] at z
  refine ⟨ρ, h, en, R, RE, PostS.of RE z fun ds h1 ρ1 H1 vs f1 R1 RE1 r1 z1 => ?_⟩
  split at z1
  · rename_i en' e
    obtain ⟨l, z2⟩ := setAll_ok (N := []) RE1 r1 e
    match vs, l, z2 with
    | [v, w, t], _, z2 => exact ⟨v, w, t, rfl, PostS.nx_ R1 z2 z1⟩
  · exact noS z1
/-- a for over what is walked -/
theorem for_conv {is : List Nat} {A : E} {B : Ss} {D : Ends} {σ : St} {H : Hp} (z : tS X.K C F W (.for_ is (.seq A) B) D σ H) : tFor (iSeq X.K (tE X.K C F W A)) (gT X.K is) (tSs X.K C F W B) D σ H := by
  obtain ⟨ρ, h, en, R, RE, z⟩ := z
  rw [evS] at z
  refine ⟨ρ, h, en, R, RE, PostS.of RE z fun d h1 ρ1 H1 v f1 R1 RE1 r1 z1 => ?_⟩
  split at z1
  · rename_i ds
    obtain ⟨p, vs, rfl, t, r⟩ := rep_tup.mp r1
    refine ⟨p, rfl, .inr ⟨⟨vs, t.sq⟩, ?_⟩⟩
    refine for_tup (xs := vs) (Pv X.K C F W is B D ρ1 H1 ds) ⟨ρ1, h1, en, Fr.refl _ _, R1, RE1, z1⟩ (fun i σ H _ ⟨ρ', h', en', f', _⟩ => (t.mono f').sq) (fun i x σ H hx p => ?_) (fun σ H p => ?_)
    · have hi : i < ds.length := by rw [← r.length]; exact (List.getElem?_eq_some_iff.mp hx).1
      obtain ⟨x', h1', h2'⟩ := r.get (List.getElem?_eq_getElem hi)
      rw [hx] at h1'; cases h1'
      exact pv_turn (List.getElem?_eq_getElem hi) (fun ρ' f' => h2'.mono f') p
    · rw [r.length] at p
      exact pv_end p
  · rename_i ds
    obtain ⟨p, vs, rfl, t, r⟩ := rep_lsF.mp r1
    refine ⟨p, rfl, .inl ⟨⟨vs, t.sq⟩, ?_⟩⟩
    refine for_list (xs := vs) (Pv X.K C F W is B D ρ1 H1 ds) ⟨ρ1, h1, en, Fr.refl _ _, R1, RE1, z1⟩ (fun i σ H _ ⟨ρ', h', en', f', _⟩ => (t.mono f').sq) (fun i x σ H hx p => ?_) (fun σ H p => ?_)
    · have hi : i < ds.length := by rw [← r.length]; exact (List.getElem?_eq_some_iff.mp hx).1
      obtain ⟨x', h1', h2'⟩ := r.get (List.getElem?_eq_getElem hi)
      rw [hx] at h1'; cases h1'
      exact pv_turn (List.getElem?_eq_getElem hi) (fun ρ' f' => h2'.mono f') p
    · rw [r.length] at p
      exact pv_end p
  · rename_i i
    cases q : h1[i]? with
    | none => simp only [q] at z1; exact noS z1
    | some o =>
      cases o with
      | lst ds =>
        simp only [q] at z1
        obtain ⟨a, vs, ha, rfl, hH, r⟩ := obj_lst R1 q r1
        exact ⟨a, rfl, .inl ⟨⟨vs, SqL.of hH⟩, forL_for R1 RE1 ha z1⟩⟩
      | _ => simp only [q] at z1; exact noS z1
  · exact noS z1
theorem range_for {is : List Nat} {B : Ss} {D : Ends} {σ : St} {H : Hp} {ρ : List Addr} {h : List O} {en : En} {lo hi : Int} (R : RelH X.K C ρ H h) (RE : RelE X.K C ρ H σ en) (z : PostS X.K C ρ H (forI (setT is) (evSs F B) (rangeD lo hi) en h) D W) :
    ∃ Wv : Nat → Nat → St → Hp → Prop, (∃ m, Wv 0 m σ H) ∧ ∀ i m σ H, Wv i m σ H →
      ((Itr lo (hi - lo).toNat).stop i H ∧ D.nx σ H) ∨ ((Itr lo (hi - lo).toNat).go i H ∧ ∃ N : St → Hp → Prop, (∀ σ' H', N σ' H' → ∃ m', m' < m ∧ Wv (i + 1) m' σ' H') ∧ ∀ x H', (Itr lo (hi - lo).toNat).yld i H x H' → gT X.K is x σ H' fun σ2 H2 => tSs X.K C F W B { D with nx := N, ct := N, bk := D.nx } σ2 H2) :=
  for_range (Pv X.K C F W is B D ρ H (rangeD lo hi)) ⟨ρ, h, en, Fr.refl _ _, R, RE, z⟩ (fun i σ H hi p => pv_turn (range_at hi) (fun ρ' f' => rep_int.mpr rfl) p) fun σ H p => by
    rw [← range_len] at p
    exact pv_end p
theorem for1_conv {is : List Nat} {A : E} {B : Ss} {D : Ends} {σ : St} {H : Hp} (z : tS X.K C F W (.for_ is (.range1 A) B) D σ H) : tFor (iRng1 (tCons (tE X.K C F W A) tNil)) (gT X.K is) (tSs X.K C F W B) D σ H := by
  obtain ⟨ρ, h, en, R, RE, z⟩ := z
  rw [evS] at z
  refine ⟨ρ, h, en, R, RE, PostS.of RE z fun d h1 ρ1 H1 v f1 R1 RE1 r1 z1 => ?_⟩
  split at z1
  · split at z1
    · rename_i n hn
      cases rep_int.mp r1
      obtain ⟨a, b⟩ := smallI_ok hn
      refine ⟨_, rfl, a, b, ?_⟩
      have := range_for (is := is) (B := B) (D := D) R1 RE1 z1
      simpa using this
    · exact noS z1
  · exact noS z1
theorem for2_conv {is : List Nat} {A A2 : E} {B : Ss} {D : Ends} {σ : St} {H : Hp} (z : tS X.K C F W (.for_ is (.range2 A A2) B) D σ H) : tFor (iRng2 (tCons (tE X.K C F W A) (tCons (tE X.K C F W A2) tNil))) (gT X.K is) (tSs X.K C F W B) D σ H := by
  obtain ⟨ρ, h, en, R, RE, z⟩ := z
  rw [evS] at z
  refine ⟨ρ, h, en, R, RE, PostS.of RE z fun d h1 ρ1 H1 v f1 R1 RE1 r1 z1 => ?_⟩
  refine ⟨ρ1, h1, en, R1, RE1, PostS.of RE1 z1 fun d2 h2 ρ2 H2 v2 f2 R2 RE2 r2 z2 => ?_⟩
  split at z2
  · split at z2
    · rename_i hn
      obtain ⟨n1, n2⟩ := Bool.and_eq_true_iff.mp hn
      cases rep_int.mp (r1.mono f2)
      cases rep_int.mp r2
      obtain ⟨a, b⟩ := smallI_ok n1
      obtain ⟨a2, b2⟩ := smallI_ok n2
      exact ⟨_, _, rfl, ⟨a, b, a2, b2⟩, range_for R2 RE2 z2⟩
    · exact noS z2
  · exact noS z2
theorem enum_conv {is : List Nat} {A : E} {B : Ss} {D : Ends} {σ : St} {H : Hp} (z : tS X.K C F W (.for_ is (.enum A) B) D σ H) : tFor (iEnum2 X.K (tCons (tE X.K C F W A) tNil)) (gT X.K is) (tSs X.K C F W B) D σ H := by
  obtain ⟨ρ, h, en, R, RE, z⟩ := z
  rw [evS] at z
  refine ⟨ρ, h, en, R, RE, PostS.of RE z fun d h1 ρ1 H1 v f1 R1 RE1 r1 z1 => ?_⟩
  split at z1
  · rename_i ds
    obtain ⟨p, vs, rfl, t, r⟩ := rep_tup.mp r1
    exact ⟨p, vs, rfl, .inr ⟨t.sq, enumT_for R1 RE1 (fun ρ' H' f' => (t.mono f').sq) r z1⟩⟩
  · rename_i i
    cases q : h1[i]? with
    | none => simp only [q] at z1; exact noS z1
    | some o =>
      cases o with
      | lst ds =>
        simp only [q] at z1
        obtain ⟨a, vs, ha, rfl, hH, r⟩ := obj_lst R1 q r1
        exact ⟨a, vs, rfl, .inl ⟨SqL.of hH, forLE_for R1 RE1 ha z1⟩⟩
      | _ => simp only [q] at z1; exact noS z1
  · exact noS z1
end
end Mi

set_option Elab.async false
set_option linter.all false
set_option maxRecDepth 100000
set_option maxHeartbeats 2000000
/-! MiK: further statements: dicts of tuple keys are written, walked; range with a step. -/
namespace Mi
open PySem L2
section
variable {K : PySem.W.Frag} {C : Cl} {ρ ρ' : List Addr} {H H' : Hp} {x : Addr} {od : Obj} {φ : Heap → Prop} {u : HO}
theorem rd_offL {p : Addr} {w : HO} (hx : H x = some (.frz od (.ext φ))) (hw : ∀ m, w ≠ .ext m) (hw2 : ∀ q m, w ≠ .frz q m) (h : Rd H p w) : Rd (upd H x u) p w := by
  rcases h with h | ⟨o, h⟩
  · exact .inl (by rw [upd_ne (fun z => by rw [z, hx] at h; exact hw2 _ _ (Option.some.inj h).symm)]; exact h)
  · exact .inr ⟨o, by rw [upd_ne (fun z => by rw [z, hx] at h; have := Option.some.inj h; injection this with _ e; exact hw _ e.symm)]; exact h⟩
mutual
theorem rep_offL (hx : H x = some (.frz od (.ext φ))) : ∀ {d : D} {v : V}, Rep K C ρ H d v → Rep K C ρ (upd H x u) d v
  | .non, _, h => rep_non.mpr (rep_non.mp h)
  | .bl _, _, h => rep_bl.mpr (rep_bl.mp h)
  | .int _, _, h => rep_int.mpr (rep_int.mp h)
  | .str _, _, h => rep_str.mpr (rep_str.mp h)
  | .adr _, _, h => rep_adr.mpr (rep_adr.mp h)
  | .obj i, _, h => rep_obj.mpr (rep_obj.mp h)
  | .tup ds, _, h => by
    obtain ⟨p, vs, e, t, r⟩ := rep_tup.mp h
    exact rep_tup.mpr ⟨p, vs, e, t.imp (fun q => ⟨rd_offL hx (by intro _ z; cases z) (by intro _ _ z; cases z) q.1, q.2⟩) id, reps_offL hx r⟩
  | .lsF ds, _, h => by
    obtain ⟨p, vs, e, t, r⟩ := rep_lsF.mp h
    exact rep_lsF.mpr ⟨p, vs, e, t.imp (fun q => ⟨rd_offL hx (by intro _ z; cases z) (by intro _ _ z; cases z) q.1, q.2⟩) id, reps_offL hx r⟩
  | .sale a b, _, h => by
    obtain ⟨p, d, e, t, n⟩ := rep_sale.mp h
    exact rep_sale.mpr ⟨p, d, e, by rw [upd_ne (fun z => by rw [z, hx] at t; cases t)]; exact t, n⟩
theorem reps_offL (hx : H x = some (.frz od (.ext φ))) : ∀ {ds : List D} {vs : List V}, Reps K C ρ H ds vs → Reps K C ρ (upd H x u) ds vs
  | [], _, h => by rw [Reps] at h ⊢; exact h
  | d :: ds, _, h => by
    rw [Reps] at h ⊢
    obtain ⟨v, us, e, a, b⟩ := h
    exact ⟨v, us, e, rep_offL hx a, reps_offL hx b⟩
end
theorem tup_offL (hx : H x = some (.frz od (.ext φ))) {p : Addr} {vs : List V} (t : TupS K ρ H p vs) : TupS K ρ (upd H x u) p vs :=
  t.imp (fun q => ⟨rd_offL hx (by intro _ z; cases z) (by intro _ _ z; cases z) q.1, q.2⟩) id
theorem relO_offL (hx : H x = some (.frz od (.ext φ))) {a : Addr} {o : O} (hne : a ≠ x) (r : RelO K C ρ H a o) : RelO K C ρ (upd H x u) a o := by
  have kv : ∀ {κ : Type} {l : List (κ × D)} {m : List (κ × V)}, KVs K C ρ H l m → KVs K C ρ (upd H x u) l m := fun h => Paired.mapP h fun _ _ z => ⟨z.1, rep_offL hx z.2⟩
  cases o with
  | lst ds => obtain ⟨vs, q, z⟩ := r; exact ⟨vs, by rw [upd_ne hne]; exact q, reps_offL hx z⟩
  | dT kvs =>
    obtain ⟨xs, q, z⟩ := r
    exact ⟨xs, by rw [upd_ne hne]; exact q, Paired.mapP z fun _ _ ⟨h1, h2, v, h4, h5⟩ => ⟨h1, tup_offL hx h2, v, h4, rep_offL hx h5⟩⟩
  | dK kvs => obtain ⟨vs, q, z⟩ := r; exact ⟨vs, by rw [upd_ne hne]; exact q, kv z⟩
  | dN kvs =>
    obtain ⟨xs, q, z⟩ := r
    exact ⟨xs, by rw [upd_ne hne]; exact q, Paired.mapP z fun _ _ ⟨h1, ⟨t, h2, h3⟩, v, h4, h5⟩ => ⟨h1, ⟨t, tup_offL hx h2, tup_offL hx h3⟩, v, h4, rep_offL hx h5⟩⟩
  | dL kvs =>
    obtain ⟨o, xs, q, z⟩ := r
    exact ⟨o, xs, by rw [upd_ne hne]; exact q, Paired.mapP z fun _ _ ⟨h1, h2, v, h4, h5⟩ => ⟨h1, tup_offL hx h2, v, h4, rep_offL hx h5⟩⟩
  | ins c fs => obtain ⟨dx, vs, q, z⟩ := r; exact ⟨dx, vs, by rw [upd_ne hne]; exact q, kv z⟩
theorem relE_offL {σ : St} {en : En} (hx : H x = some (.frz od (.ext φ))) (RE : RelE K C ρ H σ en) : RelE K C ρ (upd H x u) σ en :=
  ⟨RE.len, fun i d e => by
    obtain ⟨v, h1, h2⟩ := RE.at_ i d e
    exact ⟨v, h1, rep_offL hx h2⟩⟩
theorem relH_offL {h : List O} {i : Nat} {o : O} (R : RelH K C ρ H h) (hx : H x = some (.frz od (.ext φ))) (hi : ρ[i]? = some x) (r : RelO K C ρ (upd H x u) x o) : RelH K C ρ (upd H x u) (h.set i o) := by
  refine ⟨by simp [R.len], R.nd, fun j b q e1 e2 => ?_⟩
  by_cases hj : j = i
  · subst hj
    rw [hi] at e1; cases e1
    have hl : j < h.length := by rw [← R.len]; exact (List.getElem?_eq_some_iff.mp hi).1
    rw [List.getElem?_set_self hl] at e2
    cases e2
    exact r
  · rw [List.getElem?_set_ne (Ne.symm hj)] at e2
    have hb : b ≠ x := fun z => hj ((List.getElem?_inj (List.getElem?_eq_some_iff.mp e1).1 R.nd).mp (by rw [e1, hi, z]))
    exact relO_offL hx hb (R.at_ j b q e1 e2)
/-- open again -/
theorem Fr.unlock {w : HO} (f : Fr ρ (upd H x (.frz od u)) ρ' H') (e : H x = some u) (hn : ∀ q w, u ≠ .frz q w) (ha : x ∈ ρ) : Fr ρ H ρ' (upd H' x u) := by
  have ne : ∀ {b : Addr} {o : HO}, H b = some o → b ∉ ρ → b ≠ x := fun h n z => n (by rw [z]; exact ha)
  refine ⟨fun b o h n => ?_, fun b h => ?_, ?_, fun b o w h => ?_⟩
  · rw [upd_ne (ne h n)]; exact f.keep b o (by rw [upd_ne (ne h n)]; exact h) n
  · by_cases hb : b = x
    · rw [hb, upd_same] at h; cases h
    · rw [upd_ne hb] at h
      have := f.free b h
      rw [upd_ne hb] at this; exact this
  · obtain ⟨new, e1, h1⟩ := f.ext
    refine ⟨new, e1, fun b hb => ?_⟩
    have := h1 b hb
    by_cases q : b = x
    · rw [q, upd_same] at this; cases this
    · rw [upd_ne q] at this; exact this
  · have hb : b ≠ x := fun z => by rw [z, e] at h; exact hn _ _ (Option.some.inj h)
    rw [upd_ne hb]
    exact f.lock b o w (by rw [upd_ne hb]; exact h)
def lockD (a : Addr) (od : Obj) (u : HO) (Dn : Ends) : Ends := ⟨fun σ' H' => H' a = some (.frz od u) ∧ Dn.nx σ' (upd H' a u), fun v H' => H' a = some (.frz od u) ∧ Dn.rt v (upd H' a u), fun σ' H' => H' a = some (.frz od u) ∧ Dn.bk σ' (upd H' a u), fun σ' H' => H' a = some (.frz od u) ∧ Dn.ct σ' (upd H' a u)⟩
theorem unlk_post {P : Program} {w : World} {a : Addr} {i : Nat} {xs : List (List Key × Addr × Value)} {kvs : List (List Key × D)} {ρ1 : List Addr} {H1 : Hp} {o : OS} {Dn : Ends} {W : WX} (hP : C.prog = P) (hW : C.w = w) (e : H a = some (TObj P w a xs)) (ha : ρ[i]? = some a) (z : Paired (TEnt K C ρ H) kvs xs)
    (f : Fr ρ (upd H a (.frz od (TObj P w a xs))) ρ1 H1) (p : PostS K C ρ H (unlk i kvs o) Dn W) : PostS K C ρ1 H1 o (lockD a od (TObj P w a xs) Dn) W := by
  subst hP hW
  have hn : ∀ q w, TObj C.prog C.w a xs ≠ .frz q w := fun _ _ z => by unfold TObj at z; cases z
  have hm : a ∈ ρ := List.mem_of_getElem? ha
  have go : ∀ {ρ' : List Addr} {H' : Hp} {h : List O}, Fr ρ1 H1 ρ' H' → RelH K C ρ' H' h → H' a = some (.frz od (TObj C.prog C.w a xs)) ∧ Fr ρ H ρ' (upd H' a (TObj C.prog C.w a xs)) ∧ RelH K C ρ' (upd H' a (TObj C.prog C.w a xs)) (h.set i (.dT kvs)) := fun {ρ' H' h} f' R' => by
    have hL := (f.trans f').lock a od _ upd_same
    have fu : Fr ρ H ρ' (upd H' a (TObj C.prog C.w a xs)) := Fr.unlock (w := TObj C.prog C.w a xs) (f.trans f') e hn hm
    have ha' : ρ'[i]? = some a := by
      obtain ⟨new, e1, _⟩ := fu.ext
      rw [e1, List.getElem?_append_left (List.getElem?_eq_some_iff.mp ha).1]; exact ha
    exact ⟨hL, fu, relH_offL R' hL ha' ⟨xs, upd_same, Paired.mapP z fun _ _ y => y.mono fu⟩⟩
  cases o with
  | nx en h => exact fun ρ' H' σ' f' R' RE' => let ⟨q1, q2, q3⟩ := go f' R'; ⟨q1, p ρ' _ σ' q2 q3 (relE_offL q1 RE')⟩
  | rt d h => exact fun ρ' H' v f' R' r' => let ⟨q1, q2, q3⟩ := go f' R'; ⟨q1, p ρ' _ v q2 q3 (rep_offL q1 r')⟩
  | bk en h => exact fun ρ' H' σ' f' R' RE' => let ⟨q1, q2, q3⟩ := go f' R'; ⟨q1, p ρ' _ σ' q2 q3 (relE_offL q1 RE')⟩
  | ex _ _ _ => exact noS p
  | stuck => exact noS p
end
section
variable {T : Tab} {C : Cl} {F : Fns} {k : Nat} {sc : Scope} {N : List Str} {X : Cx} {W : WX}
theorem key_rep {K : PySem.W.Frag} {ρ : List Addr} {H : Hp} : ∀ {ks : List Key}, Reps K C ρ H (ks.map fun | .inl i => .int i | .inr s => .str s) (ks.map kV)
  | [] => Reps.nil
  | .inl i :: ks => Reps.cons (rep_int.mpr rfl) key_rep
  | .inr s :: ks => Reps.cons (rep_str.mpr rfl) key_rep
theorem keys_conv {is : List Nat} {A : E} {B : Ss} {D : Ends} {σ : St} {H : Hp} (hP : C.prog = X.prog) (hW : C.w = X.w) (z : tS X.K C F W (.for_ is (.keys A) B) D σ H) :
    tLock (tFor (iKeysX X (tE X.K C F W A)) (gT X.K is) (tSs X.K C F W B)) D σ H := by
  obtain ⟨ρ, h, en, R, RE, p⟩ := z
  rw [evS] at p
  cases e0 : evE F A en h with
  | exc => rw [e0] at p; exact noS p
  | stuck => rw [e0] at p; exact noS p
  | ok x h0 =>
    rw [e0] at p
    cases x with
    | obj i =>
      cases q : h[i]? with
      | none => simp only [q] at p; exact noS p
      | some o =>
        cases o with
        | dT kvs =>
          simp only [q] at p
          obtain ⟨a, ha⟩ : ∃ a, ρ[i]? = some a := ⟨_, List.getElem?_eq_getElem (by rw [R.len]; exact (List.getElem?_eq_some_iff.mp q).1)⟩
          obtain ⟨xs, hH, zz⟩ := R.at_ i a _ ha q
          have hH2 := hH
          rw [hP, hW] at hH2
          have nf : ∀ o w, H a ≠ some (.frz o w) := nofr hH (fun _ _ z => by unfold TObj at z; cases z)
          refine ⟨a, TObj X.prog X.w a xs, hH2, trivial, fun od => ?_⟩
          have fL : Fr ρ H ρ (upd H a (.frz od (TObj X.prog X.w a xs))) := Fr.wr (List.mem_of_getElem? ha) nf
          have RL : RelH X.K C ρ (upd H a (.frz od (TObj X.prog X.w a xs))) (h.set i (.dL kvs)) := R.wr nf ha ⟨od, xs, by rw [hP, hW]; exact upd_same, Paired.mapP zz fun _ _ y => y.mono fL⟩
          show tE X.K C F W A σ _ fun x H1 => _
          refine ⟨ρ, h.set i (.dL kvs), en, RL, RE.mono fL, ?_⟩
          cases e1 : evE F A en (h.set i (.dL kvs)) with
          | exc x1 h1 => rw [e1] at p; exact fun ρ1 H1 cls dd f1 R1 rx => p ρ1 H1 σ cls dd (fL.trans f1) R1 (RE.mono (fL.trans f1)) rx
          | stuck => rw [e1] at p; exact noS p
          | ok x1 h1 =>
            rw [e1] at p
            intro ρ1 H1 v1 f1 R1 r1
            cases x1 with
            | obj j =>
              have p : PostS X.K C ρ H (if j = i then unlk i kvs (forI (setT is) (evSs F B) (kvs.map fun q => keyD q.1) en h1) else .stuck) D W := p
              by_cases hj : j = i
              · subst hj
                rw [if_pos rfl] at p
                obtain ⟨a', ha', rfl⟩ := rep_obj.mp r1
                obtain ⟨new, e2, _⟩ := f1.ext
                rw [e2, List.getElem?_append_left (List.getElem?_eq_some_iff.mp ha).1, ha] at ha'
                cases ha'
                have hl1 := f1.lock a od _ upd_same
                have hlen : (kvs.map fun (q : List Key × Mi.D) => keyD q.1).length = xs.length := by rw [List.length_map]; exact Paired.length zz
                refine ⟨a, od, xs, rfl, hl1, ?_⟩
                refine for_it walk_keysX (Pv X.K C F W is B (lockD a od (TObj X.prog X.w a xs) D) ρ1 H1 (kvs.map fun (q : List Key × Mi.D) => keyD q.1)) ⟨ρ1, h1, en, Fr.refl _ _, R1, (RE.mono fL).mono f1, unlk_post hP hW hH2 ha zz f1 p⟩ (fun i σ H _ ⟨ρ', h', en', f', _⟩ => f'.lock a od _ hl1) (fun i x σ H2 H' hi p2 y => ?_) (fun σ H2 p2 => ?_)
                · obtain ⟨rfl, y, hy, rfl⟩ := y
                  have hik : i < kvs.length := by rw [Paired.length zz]; exact hi
                  obtain ⟨y2, hy2, t1, t2, _⟩ := paired_get zz (List.getElem?_eq_getElem hik)
                  rw [hy] at hy2; cases hy2
                  refine pv_turn (d := keyD kvs[i].1) (by simp [hik]) (fun ρ' f' => rep_tup.mpr ⟨y.2.1, _, rfl, ((t2.mono fL).mono f1).mono f', ?_⟩) p2
                  rw [← t1]
                  exact key_rep
                · rw [← hlen] at p2
                  exact pv_end p2
              · rw [if_neg hj] at p; exact noS p
            | _ => exact noS p
        | _ => simp only [q] at p; exact noS p
    | _ => exact noS p
theorem for3_conv {is : List Nat} {A A2 A3 : E} {B : Ss} {D : Ends} {σ : St} {H : Hp} (z : tS X.K C F W (.for_ is (.range3 A A2 A3) B) D σ H) : tFor (iRng3 (tCons (tE X.K C F W A) (tCons (tE X.K C F W A2) (tCons (tE X.K C F W A3) tNil)))) (gT X.K is) (tSs X.K C F W B) D σ H := by
  obtain ⟨ρ, h, en, R, RE, z⟩ := z
  rw [evS] at z
  refine ⟨ρ, h, en, R, RE, PostS.of RE z fun d h1 ρ1 H1 v f1 R1 RE1 r1 z1 => ?_⟩
  refine ⟨ρ1, h1, en, R1, RE1, PostS.of RE1 z1 fun d2 h2 ρ2 H2 v2 f2 R2 RE2 r2 z2 => ?_⟩
  refine ⟨ρ2, h2, en, R2, RE2, PostS.of RE2 z2 fun d3 h3 ρ3 H3 v3 f3 R3 RE3 r3 z3 => ?_⟩
  split at z3
  · split at z3
    · rename_i m n c hn
      simp only [Bool.and_eq_true, decide_eq_true_eq] at hn
      obtain ⟨⟨n1, n2⟩, rfl⟩ := hn
      cases rep_int.mp ((r1.mono f2).mono f3)
      cases rep_int.mp (r2.mono f3)
      cases rep_int.mp r3
      obtain ⟨a, b⟩ := smallI_ok n1
      obtain ⟨a2, b2⟩ := smallI_ok n2
      refine ⟨_, _, _, _, rfl, RgC.neg a b a2 b2, ?_⟩
      have hl : (downD m n).length = (m - n).toNat := by unfold downD; simp
      refine for_it walk_rangeC (Pv X.K C F W is B D ρ3 H3 (downD m n)) ⟨ρ3, h3, en, Fr.refl _ _, R3, RE3, z3⟩ (fun _ _ _ _ _ => trivial) (fun i x σ H2 H' hi p2 y => ?_) (fun σ H2 p2 => ?_)
      · obtain ⟨rfl, rfl⟩ := y
        exact pv_turn (d := .int (m + (i : Nat) * (-1))) (by unfold downD; simp [hi]) (fun ρ' f' => rep_int.mpr rfl) p2
      · rw [← hl] at p2
        exact pv_end p2
    · exact noS z3
  · exact noS z3
theorem tput_conv {A I B : E} {D : Ends} {σ : St} {H : Hp} (hP : C.prog = X.prog) (hW : C.w = X.w) (z : tS X.K C F W (.tput A I B) D σ H) : sTPut X (tE X.K C F W A) (tE X.K C F W I) (tE X.K C F W B) D σ H := by
  obtain ⟨ρ, h, en, R, RE, z⟩ := z
  rw [evS] at z
  refine ⟨ρ, h, en, R, RE, PostS.of RE z fun d h1 ρ1 H1 v f1 R1 RE1 r1 z1 => ?_⟩
  refine ⟨ρ1, h1, en, R1, RE1, PostS.of RE1 z1 fun x h2 ρ2 H2 w f2 R2 RE2 r2 z2 => ?_⟩
  refine ⟨ρ2, h2, en, R2, RE2, PostS.of RE2 z2 fun y h3 ρ3 H3 u f3 R3 RE3 r3 z3 => ?_⟩
  split at z3
  · rename_i i kvs kk hn
    split at z3
    · rename_i hl
      obtain ⟨a, b, xs, ha, rfl, rfl, hH, zz, kb⟩ := td_at R3 hn (r2.mono f3) r3
      have rv := (r1.mono f2).mono f3
      have hH2 := hH
      rw [hP, hW] at hH2
      have nf : ∀ o w, H3 a ≠ some (.frz o w) := nofr hH (fun _ _ z => by unfold TObj at z; cases z)
      refine ⟨a, b, kk, xs, rfl, rfl, hH2, keys_t zz, kb.sq, ?_, fun u hu => ?_⟩
      · rw [← Paired.length zz]; exact limLt hl
      · have fw : Fr ρ3 H3 ρ3 (upd H3 a (TObj X.prog X.w a (storedH xs kk b u))) := Fr.wr (List.mem_of_getElem? ha) nf
        refine z3 ρ3 _ σ fw (R3.wr nf ha ⟨storedH xs kk b u, ?_, Paired.mapP (put_t kb hu rv zz) fun _ _ y => y.mono fw⟩) (RE3.mono fw)
        rw [hP, hW]; exact upd_same
    · exact noS z3
  · exact noS z3
theorem setIt {it : Expr} {env : Env} (h : noSet it = true) : ∀ x, foldedSetIterable it env x = pure x := by
  intro x
  cases it <;> first | rfl | cases h
theorem swaps1 {t e : Expr} {l : Nat} {env : Env} (h : notComp e = true) : swapsWithSole [t] e l env = pure false := swaps_of (t := some t) h
theorem sw_none {ts : List Expr} {e : Expr} {kk : Nat} {p : Pos} {env : Env} (h : notTuple e = true) : swappedStores [.Tuple ts kk p] e env = pure none := by
  cases e <;> first | rfl | cases h
theorem asg_tup {X : Cx} {te : TE} {g : TG} {ts : List Expr} {e : Expr} {kk : Nat} {p pos : Pos} (he : PE X e te) (hg : PG X (.Tuple ts kk p) g) (hc : notComp e = true) (hw : swappedStores [.Tuple ts kk p] e X.env = pure none) :
    PS X (.Assign [.Tuple ts kk p] e pos) (tAsg te g) := ps_asg he hg (swaps1 hc) hw rfl
theorem unl_pg (c : CtxS T C F k sc N X) {ts : List Expr} {is : List Nat} {kk : Nat} {p : Pos} (h : namesB sc N ts is = true) : PG X (.Tuple ts kk p) (gLst X.K is.length (gNames is)) := by
  obtain ⟨g, l, f⟩ := names_pg c h
  exact pg_lst c.calm g l f
theorem unpL_conv {is : List Nat} {B : E} {D : Ends} {σ : St} {H : Hp} (z : tS X.K C F W (.unpL is B) D σ H) : tAsg (tE X.K C F W B) (gLst X.K is.length (gNames is)) D σ H := by
  obtain ⟨ρ, h, en, R, RE, z⟩ := z
  rw [evS] at z
  refine ⟨ρ, h, en, R, RE, PostS.of RE z fun d h1 ρ1 H1 v f1 R1 RE1 r1 z1 => ?_⟩
  split at z1
  · rename_i ds hd
    split at z1
    · rename_i en' e
      unfold lstOf at hd
      split at hd
      · rename_i hl
        obtain ⟨a, vs, rfl, rs, hh⟩ := items_sq R1 r1 hd
        rcases hh with ⟨_, hs⟩ | ⟨hf, _⟩
        · obtain ⟨l, z2⟩ := setAll_ok (N := []) RE1 rs e
          exact ⟨a, vs, rfl, hs, l, l, PostS.nx_ R1 z2 z1⟩
        · rw [hl] at hf; cases hf
      · cases hd
    · exact noS z1
  · exact noS z1
/-- an item of a list, by values -/
theorem get_list : PGet X (rIxL X.K) := by
  intro pins s σ H x y v u Q I rx ry h
  obtain ⟨p, xs, i, z, rfl, rfl, hq, he, q⟩ := h
  cases rx
  obtain ⟨t, rfl⟩ := ry
  obtain ⟨its, r, pl, hz⟩ := I.list hq
  obtain ⟨j, h1, h2, h3, h4, h5⟩ := atI_get he
  obtain ⟨w, ew, rw'⟩ := r.get h2
  have hl := r.length
  have hn := line63
  have fin : EP X pins σ Q w s := ⟨z, H, I, rw', q⟩
  by_cases h0 : 0 ≤ i
  · have hj : i.toNat = j := by
      rw [seqIndex_of h0 h5] at h1
      exact Option.some.inj h1
    exact wpAny_getItem_list pl.isList h0 (by omega) (by rw [hj]; simpa using ew) fin
  · have hj : (i + (its.toArray.size : Int)).toNat = j := by
      rw [seqIndex_neg (by omega) h4] at h1
      rw [List.size_toArray, ← hl]
      exact Option.some.inj h1
    exact wpAny_getItem_list_neg pl.isList (by omega) (by rw [List.size_toArray] <;> omega) (by omega) (by rw [hj]; simpa using ew) fin
theorem aug_set {i : Expr} (h : notSlice i = true) : ∀ ov iv new, augStore i ov iv new = (do holding [new, ov, iv] (setItem ov iv new); release [new, ov, iv] []; pure .next) := by
  intro ov iv new
  cases i <;> first | rfl | cases h
def rAug (o : Bop) : V → V → Hp → VK → Prop := fun x y H Q => ∃ i j, x = .int i ∧ y = .int j ∧ ((o = .add ∧ Q (.int (i + j)) H) ∨ (o = .sub ∧ Q (.int (i - j)) H))
theorem aug_post {o : Bop} {d y z : D} {v w : V} {ρ : List Addr} {H : Hp} {Q : VK} {K : PySem.W.Frag} (e : augI o d y = some z) (rd : Rep K C ρ H d v) (ry : Rep K C ρ H y w) (q : ∀ u, Rep K C ρ H z u → Q u H) : rAug o v w H Q := by
  unfold augI at e
  split at e
  · cases e
    cases rep_int.mp rd
    cases rep_int.mp ry
    exact ⟨_, _, rfl, rfl, .inl ⟨rfl, q _ (rep_int.mpr rfl)⟩⟩
  · cases e
    cases rep_int.mp rd
    cases rep_int.mp ry
    exact ⟨_, _, rfl, rfl, .inr ⟨rfl, q _ (rep_int.mpr rfl)⟩⟩
  · cases e
theorem augF_conv {A B : E} {f : Str} {y : Nat} {o : Bop} {D : Ends} {σ : St} {H : Hp} (c : Ctx T C F k sc N X) (hf : (y, f) ∈ T.flds) (z : tS X.K C F W (.augF y A f o B) D σ H) : sFldAug X.K (tE X.K C F W A) (tE X.K C F W B) (rAug o) f D σ H := by
  obtain ⟨ρ, h, en, R, RE, z⟩ := z
  rw [evS] at z
  refine ⟨ρ, h, en, R, RE, PostS.of RE z fun x h1 ρ1 H1 v f1 R1 RE1 r1 z1 => ?_⟩
  obtain ⟨t1, t2⟩ := c.flds _ hf
  cases e1 : fldCI y x f h1 with
  | none => simp only [e1] at z1; exact noS z1
  | some d =>
    simp only [e1] at z1
    cases x with
    | obj i =>
      cases q : h1[i]? with
      | none => simp only [fldCI, q] at e1; cases e1
      | some ob =>
        simp only [fldCI, q] at e1
        cases ob with
        | ins y' fs =>
          dsimp only at e1
          split at e1
          · rename_i hy; subst hy
            obtain ⟨a, ha, rfl⟩ := rep_obj.mp r1
            obtain ⟨dx, gs, hH, kv⟩ := R1.at_ i a _ ha q
            obtain ⟨w, l1, l2⟩ := kvs_look kv e1
            refine ⟨a, C.at_ y', dx, gs, w, rfl, hH, t1, t2, l1, ?_⟩
            refine ⟨ρ1, h1, en, R1, RE1, PostS.of RE1 z1 fun y2 h2 ρ2 H2 v2 f2 R2 RE2 r2 z2 => ?_⟩
            split at z2
            · rename_i zz hz
              refine aug_post hz (l2.mono f2) r2 fun u ru => ?_
              unfold setFI at z2
              split at z2
              · rename_i h3 e3
                have ha2 : ρ2[i]? = some a := by
                  obtain ⟨new, e2, _⟩ := f2.ext
                  rw [e2, List.getElem?_append_left (List.getElem?_eq_some_iff.mp ha).1]; exact ha
                cases q2 : h2[i]? with
                | none => simp only [q2] at e3; cases e3
                | some ob2 =>
                  simp only [q2] at e3
                  cases ob2 with
                  | ins y2 fs2 =>
                    dsimp only at e3
                    split at e3
                    · rename_i hc
                      cases e3
                      obtain ⟨rfl, hl⟩ := hc
                      obtain ⟨dx2, gs2, hH2, kv2⟩ := R2.at_ i a _ ha2 q2
                      have fw : Fr ρ2 H2 ρ2 (upd H2 a (.ins (C.at_ y2) dx2 (putF f u gs2))) := Fr.wr (List.mem_of_getElem? ha2) (nofr hH2)
                      refine ⟨dx2, gs2, hH2, by rw [kvs_len kv2]; omega, ?_⟩
                      exact z2 ρ2 _ σ fw (R2.wr (nofr hH2) ha2 ⟨dx2, _, upd_same, (kvs_put ru kv2).mono fw⟩) (RE2.mono fw)
                    · cases e3
                  | _ => cases e3
              · exact noS z2
            · exact noS z2
          · cases e1
        | _ => cases e1
    | _ => cases e1
theorem augI_conv {A I B : E} {o : Bop} {D : Ends} {σ : St} {H : Hp} (z : tS X.K C F W (.augI A I o B) D σ H) : tAugS (tE X.K C F W A) (tE X.K C F W I) (tE X.K C F W B) (rIxL X.K) (rAug o) rSetL D σ H := by
  obtain ⟨ρ, h, en, R, RE, z⟩ := z
  rw [evS] at z
  refine ⟨ρ, h, en, R, RE, PostS.of RE z fun x h1 ρ1 H1 v f1 R1 RE1 r1 z1 => ?_⟩
  refine ⟨ρ1, h1, en, R1, RE1, PostS.of RE1 z1 fun y h2 ρ2 H2 w f2 R2 RE2 r2 z2 => ?_⟩
  split at z2
  · rename_i d hd
    unfold getII at hd
    split at hd
    · rename_i hl
      unfold idxI at hd
      cases y with
      | int i =>
        cases rep_int.mp r2
        cases q1 : itemsOf x h2 with
        | none => simp only [q1] at hd; cases hd
        | some l =>
          simp only [q1] at hd
          obtain ⟨a, vs, rfl, r, s⟩ := items_sq R2 (r1.mono f2) q1
          obtain ⟨u, eu, ru⟩ := reps_at r hd
          rcases s with ⟨_, s⟩ | ⟨hf, _⟩
          · refine ⟨a, vs, i, u, rfl, rfl, s, eu, ?_⟩
            refine ⟨ρ2, h2, en, R2, RE2, PostS.of RE2 z2 fun zd h3 ρ3 H3 v3 f3 R3 RE3 r3 z3 => ?_⟩
            split at z3
            · rename_i wd hw
              refine aug_post hw (ru.mono f3) r3 fun u3 ru3 => ?_
              split at z3
              · rename_i h4 e4
                unfold setII at e4
                cases x with
                | obj j =>
                  cases q : h3[j]? with
                  | none => simp only [q] at e4; cases e4
                  | some ob =>
                    cases ob with
                    | lst ds =>
                      simp only [q] at e4
                      cases e5 : ixN ds.length i with
                      | none => simp only [e5] at e4; cases e4
                      | some mm =>
                        simp only [e5] at e4
                        cases e4
                        obtain ⟨a', vs', ha', e6, hH, rl⟩ := obj_lst R3 q ((r1.mono f2).mono f3)
                        cases e6
                        have fw : Fr ρ3 H3 ρ3 (upd H3 a (.lst (vs'.set mm u3))) := Fr.wr (List.mem_of_getElem? ha') (nofr hH)
                        refine ⟨a, vs', i, mm, rfl, rfl, hH, by rw [rl.length]; exact e5, ?_⟩
                        exact z3 ρ3 _ σ fw (R3.wr (nofr hH) ha' ⟨_, upd_same, (Reps.set mm rl ru3).mono fw⟩) (RE3.mono fw)
                    | _ => simp only [q] at e4; cases e4
                | _ => cases e4
              · exact noS z3
            · exact noS z3
          · rw [hl] at hf; cases hf
      | _ => cases hd
    · cases hd
  · exact noS z2
/-- the step's further statements -/
theorem okSW_ps (c : CtxS T C F k sc N X) (tk : Takes X W) {f : Expr → E → Bool} {g : List Stmt → Ss → Bool} {s : Stmt} {A : S} (ee : ∀ e A, f e A = true → PE X e (tE X.K C F W A)) (es : ∀ ss As, g ss As = true → PSs X ss (tSs X.K C F W As)) (h : okSW T sc N f g s A = true) : PS X s (tS X.K C F W A) := by
  have hu : X.A.units + 65 < cLine := by have := c.room.un; omega
  unfold okSW at h
  split at h
  · split at h
    · simp only [Bool.and_eq_true] at h
      obtain ⟨⟨⟨⟨h1, h2⟩, h3⟩, h4⟩, h5⟩ := h
      exact PS.weak (ps_nput (by omega) (ee _ _ h3) (ee _ _ h4) (ee _ _ h5) (swaps_of h2)) fun D σ H => nput_conv c.hP c.hW
    · cases h
  · split at h
    · simp only [Bool.and_eq_true] at h
      obtain ⟨⟨⟨h1, h2⟩, h3⟩, h4⟩ := h
      exact PS.weak (asg_tup (ee _ _ h4) (unl_pg c h1) h3 (sw_none h2)) fun D σ H => unpL_conv
    · cases h
  · split at h
    · simp only [Bool.and_eq_true, decide_eq_true_eq] at h
      obtain ⟨⟨⟨⟨h1, h2⟩, h3⟩, h4⟩, h5⟩ := h
      subst h1
      exact PS.weak (ps_fldaug (ee _ _ h4) (ee _ _ h5) (aug_ok h3)) fun D σ H => augF_conv c.toCtx (List.contains_iff_mem.mp h2)
    · cases h
  · split at h
    · simp only [Bool.and_eq_true, decide_eq_true_eq] at h
      obtain ⟨⟨⟨⟨h1, h2⟩, h3⟩, h4⟩, h5⟩ := h
      exact PS.weak (ps_augS (ee _ _ h3) (ee _ _ h4) get_list (ee _ _ h5) (aug_ok h2) set_list (aug_set h1)) fun D σ H => augI_conv
    · cases h
  · split at h
    · simp only [Bool.and_eq_true] at h
      obtain ⟨⟨⟨⟨h1, h2⟩, h3⟩, h4⟩, h5⟩ := h
      exact PS.weak (ps_tput (by omega) (ee _ _ h3) (ee _ _ h4) (ee _ _ h5) (swaps_of h2)) fun D σ H => tput_conv c.hP c.hW
    · cases h
  · split at h
    · simp only [Bool.and_eq_true] at h
      obtain ⟨⟨⟨h1, h2⟩, h3⟩, h4⟩ := h
      exact PS.weak (ps_lock (ps_for c.own c.calm (pi_keysX (ee _ _ h3)) (tg_pg c h1) (es _ _ h4) (setIt h2))) fun D σ H => keys_conv c.hP c.hW
    · cases h
  · split at h
    · simp only [Bool.and_eq_true, decide_eq_true_eq] at h
      obtain ⟨⟨⟨⟨⟨⟨⟨⟨⟨h1, h2⟩, h3⟩, h4⟩, h5⟩, h6⟩, h7⟩, h8⟩, h9⟩, h10⟩ := h
      subst h1
      obtain ⟨g1, g2, g3⟩ := c.gl h2
      exact PS.weak (ps_for c.own c.calm (pi_range3 g1 (c.kok.free _ (by decide +kernel)) (pa_cons (ee _ _ h7) (pa_cons (ee _ _ h8) (pa_cons (ee _ _ h9) pa_nil (star_of h5)) (star_of h4)) (star_of h3)) (star_of h3) (noStars_any (by simp [noStars, h4, h5]))) (tg_pg c h6) (es _ _ h10)) fun D σ H => for3_conv
    · cases h
  · cases h
end
end Mi

set_option Elab.async false
set_option linter.all false
set_option maxRecDepth 100000
set_option maxHeartbeats 2000000
/-! Mi14: statements and blocks: the theorem. -/
namespace Mi
open PySem L2
section
variable {T : Tab} {C : Cl} {F : Fns} {k : Nat} {sc : Scope} {N : List Str}
theorem starsEach {a b : Expr} {env : Env} (h1 : notStar a = true) (h2 : notStar b = true) : starEach [a, b] env = [(false, eval a env), (false, eval b env)] ∧ starEach [b] env = [(false, eval b env)] := by
  have e2 : starEach [b] env = [(false, eval b env)] := by rw [star_of h2]; rfl
  exact ⟨by rw [star_of h1, e2], e2⟩
theorem names_len {sc : Scope} {N : List Str} : ∀ {ts : List Expr} {is : List Nat}, namesB sc N ts is = true → ts.length = is.length
  | [], [], _ => rfl
  | [], _ :: _, h => by cases h
  | _ :: _, [], h => by simp [namesB] at h
  | t :: ts, i :: is, h => by
    have h2 : namesB sc N ts is = true := by
      cases t <;> first | cases h | (simp only [namesB, Bool.and_eq_true] at h; exact h.2)
    simp [names_len h2]
theorem tup_pg {X : Cx} (c : CtxS T C F k sc N X) {ts : List Expr} {is : List Nat} {kk : Nat} {p : Pos} (h : namesB sc N ts is = true) : PG X (.Tuple ts kk p) (gTup X.K is.length (gNames is)) := by
  obtain ⟨g, l, f⟩ := names_pg c h
  exact pg_tup c.calm g l f
theorem swaps_fld {e o : Expr} {f : Str} {p : Pos} {l : Nat} {env : Env} : swapsWith e (some (.Attribute o f p)) l env = pure false := by
  cases e <;> rfl
theorem sw_sub {o i e : Expr} {p : Pos} {env : Env} : swappedStores [.Subscript o i p] e env = pure none := by
  cases e <;> rfl
theorem sub_asg {o i : Expr} {pos : Pos} {env : Env} (h : notSlice i = true) : ∀ v, assign (.Subscript o i pos) env v = (do
      let ov ← holding [v] (eval o env)
      let iv ← holding [v, ov] (eval i env)
      standAt pos
      holding [v, ov, iv] (setItem ov iv v)
      release [v, ov, iv] []) := by
  intro v
  cases i <;> first | rfl | cases h
theorem folded {it : Expr} {env : Env} (h : noSet it = true) : ∀ x, foldedSetIterable it env x = pure x := by
  intro x
  cases it <;> first | rfl | cases h
/-- a comprehension's parts -/
def LcK (X : Cx) (elt tg iter : Expr) (ifs : List Expr) (scope : Scope) (t : TE) : Prop := ∃ (own : List (Str × Nat)) (wi : TI) (g : TG) (tt : TT) (te : TE), PI X tg iter wi ∧ BlkOk X.N X.env.scope scope own ∧
  (∀ (s : Shared) (H : Hp) (C : Addr) (cl : List (Str × Addr)) (fp : List Addr), PG (X.blk s H scope (compEnvC scope cl C X.env) fp) tg g) ∧ (∀ (s : Shared) (H : Hp) (C : Addr) (cl : List (Str × Addr)) (fp : List Addr), PTs (X.blk s H scope (compEnvC scope cl C X.env) fp) ifs tt) ∧
  (∀ (s : Shared) (H : Hp) (C : Addr) (cl : List (Str × Addr)) (fp : List Addr), PE (X.blk s H scope (compEnvC scope cl C X.env) fp) elt te) ∧ (∀ x, foldedSetIterable iter X.env x = pure x) ∧ ∀ σ H Q, t σ H Q → tLc wi g tt te (own.map (·.2)) σ H Q
theorem lc_ok {X : Cx} {W : WX} (c : Ctx T C F k sc N X) (tk : Takes X W) {elt : Expr} {gs : List Comprehension} {sc2 : Scope} {lp : Pos} {n : Nat} {B : E} (hb : isComp B = true) (h : okE T F.gl sc N (n + 1) (.ListComp elt gs sc2 lp) B = true) :
    ∃ tg it ifs, gs = [⟨tg, it, ifs, 0⟩] ∧ LcK X elt tg it ifs sc2 (tE X.K C F W B) := by
  have ih := (okn_gen n sc X W c tk).1
  have ihA := fun (sc2 : Scope) (Y : Cx) (c2 : Ctx T C F k sc2 N Y) => okn_gen n sc2 Y W0 c2 takes0
  unfold okE at h
  rw [Bool.or_eq_true] at h
  replace h := h.resolve_left (by cases B <;> first | (cases hb; done) | (intro z; cases z))
  split at h
  all_goals try contradiction
  all_goals first | (cases hb; done) | skip
  all_goals try (injections; subst_vars)
  · simp only [Bool.and_eq_true, compB, decide_eq_true_eq, List.all_eq_true] at h
    obtain ⟨⟨⟨⟨⟨⟨⟨⟨b1, b2⟩, nd⟩, h2⟩, h3⟩, h4⟩, h5⟩, h6⟩, h7⟩ := h
    refine ⟨_, _, _, rfl, _, _, gT X.K _, tTk X.K C F _ _, tE X.K C F W0 _, pi_seq (ih.e _ _ h5), by rw [c.nm, c.hsc]; exact blkOk_by b1, fun s H L cl fp => tgL_pg (X := X.blk s H _ (compEnvC _ cl L X.env) fp) (c.blk (s := s) (H := H) (L := L) (cl := cl) (fp := fp)).hsc c.nm nd c.calm h2, fun s H L cl fp => ifs_ok h6 (ihA _ (X.blk s H _ (compEnvC _ cl L X.env) fp) (c.blk (s := s) (H := H) (L := L) (cl := cl) (fp := fp))).2, fun s H L cl fp => (ihA _ (X.blk s H _ (compEnvC _ cl L X.env) fp) (c.blk (s := s) (H := H) (L := L) (cl := cl) (fp := fp))).1.e _ _ h7, folded' h4, fun σ H Q z => ?_⟩
    rw [b2]
    exact comp_conv (fun j hj => List.contains_iff_mem.mp (h3 j hj)) z
  · simp only [Bool.and_eq_true, compB, decide_eq_true_eq] at h
    obtain ⟨⟨⟨⟨⟨⟨⟨⟨⟨⟨b1, b2⟩, nd⟩, h2⟩, h3⟩, h4⟩, h5⟩, h6⟩, h7⟩, h8⟩, h9⟩ := h
    subst h4
    obtain ⟨g1, g2, g3⟩ := c.gl h5
    refine ⟨_, _, _, rfl, _, _, gT X.K _, tTk X.K C F _ _, tE X.K C F W0 _, pi_range1 g1 (c.kok.free _ (by decide +kernel)) (pa_cons (ih.e _ _ h7) pa_nil (star_of h6)) (by rw [star_of h6]; rfl), by rw [c.nm, c.hsc]; exact blkOk_by b1, fun s H L cl fp => tgL_pg (X := X.blk s H _ (compEnvC _ cl L X.env) fp) (c.blk (s := s) (H := H) (L := L) (cl := cl) (fp := fp)).hsc c.nm nd c.calm h2, fun s H L cl fp => ifs_ok h8 (ihA _ (X.blk s H _ (compEnvC _ cl L X.env) fp) (c.blk (s := s) (H := H) (L := L) (cl := cl) (fp := fp))).2, fun s H L cl fp => (ihA _ (X.blk s H _ (compEnvC _ cl L X.env) fp) (c.blk (s := s) (H := H) (L := L) (cl := cl) (fp := fp))).1.e _ _ h9, fun _ => rfl, fun σ H Q z => ?_⟩
    rw [b2]
    exact comp1_conv (List.contains_iff_mem.mp h3) z
  · simp only [Bool.and_eq_true, compB, decide_eq_true_eq] at h
    obtain ⟨⟨⟨⟨⟨⟨⟨⟨⟨⟨⟨⟨b1, b2⟩, nd⟩, h2⟩, h3⟩, h4⟩, h5⟩, h6⟩, h6b⟩, h7⟩, h7b⟩, h8⟩, h9⟩ := h
    have h3 := List.all_eq_true.mp h3
    obtain ⟨g1, g2, g3⟩ := c.gl h5
    refine ⟨_, _, _, rfl, _, _, gT X.K _, tTk X.K C F _ _, tE X.K C F W0 _, pi_two h4 g1 (c.kok.free _ (by decide +kernel)) (c.kok.free _ (by decide +kernel)) h6 h6b (ih.e _ _ h7) (ih.e _ _ h7b), by rw [c.nm, c.hsc]; exact blkOk_by b1, fun s H L cl fp => tgL_pg (X := X.blk s H _ (compEnvC _ cl L X.env) fp) (c.blk (s := s) (H := H) (L := L) (cl := cl) (fp := fp)).hsc c.nm nd c.calm h2, fun s H L cl fp => ifs_ok h8 (ihA _ (X.blk s H _ (compEnvC _ cl L X.env) fp) (c.blk (s := s) (H := H) (L := L) (cl := cl) (fp := fp))).2, fun s H L cl fp => (ihA _ (X.blk s H _ (compEnvC _ cl L X.env) fp) (c.blk (s := s) (H := H) (L := L) (cl := cl) (fp := fp))).1.e _ _ h9, fun _ => rfl, fun σ H Q z => ?_⟩
    rw [b2]
    exact comp2_conv (fun j hj => List.contains_iff_mem.mp (h3 j hj)) z
  all_goals cases h
theorem lc_okA {X : Cx} {W : WX} (c : Ctx T C F k sc N X) (tk : Takes X W) {elt : Expr} {gs : List Comprehension} {sc2 : Scope} {lp : Pos} {n : Nat} {B : E} (hb : isCompA B = true) (h : okE T F.gl sc N (n + 2) (.ListComp elt gs sc2 lp) B = true) :
    ∃ tg it ifs, gs = [⟨tg, it, ifs, 0⟩] ∧ LcK X elt tg it ifs sc2 (tE X.K C F W B) := by
  by_cases hb2 : isComp B = true
  · exact lc_ok c tk hb2 h
  · cases B with
    | apE vs A =>
      have h2 : okE T F.gl sc N (n + 1) (.ListComp elt gs sc2 lp) A = true := by
        have h3 : (plainT (.ListComp elt gs sc2 lp) && okE T F.gl sc N (n + 1) (.ListComp elt gs sc2 lp) A) = true := h
        simp only [Bool.and_eq_true] at h3; exact h3.2
      obtain ⟨tg, it, ifs, e, own, wi, g, tt, te, hi, ok, hg, ht, he, hs, cv⟩ := lc_ok c tk hb h2
      exact ⟨tg, it, ifs, e, own, wi, g, tt, te, hi, ok, hg, ht, he, hs, fun σ H Q z => cv _ _ _ (ap_conv z)⟩
    | _ => exact absurd hb hb2
theorem okS_step (n : Nat) (ih : ∀ (X : Cx) (W : WX), CtxS T C F k sc N X → Takes X W → ∀ ss As, okSs T F.gl sc N n ss As = true → PSs X ss (tSs X.K C F W As)) :
    ∀ (X : Cx) (W : WX), CtxS T C F k sc N X → Takes X W → ∀ s A, okS T F.gl sc N (n + 1) s A = true → PS X s (tS X.K C F W A) := by
  intro X W c tk s A h
  have ee := fun e A => (okn_all c.toCtx tk 30).1.e e A
  have ees := fun e A => (okn_all c.toCtx tk 30).1.es e A
  have et := fun e A => (okn_all c.toCtx tk 30).2 e A
  have hu : X.A.units + 65 < cLine := by have := c.room.un; omega
  have nd : X.N.Nodup := by rw [c.nm]; exact c.nd
  unfold okS at h
  rw [Bool.or_eq_true] at h
  rcases h with h | h
  · exact okSW_ps c tk (fun e A => ee e A) (fun ss As => ih X W c tk ss As) h
  split at h
  · -- what is not reached
    refine ⟨fun pins s σ H D I ⟨ρ, h, en, R, RE, z⟩ => ?_⟩
    rw [evS] at z
    · exact noS z
    all_goals (intros; first | contradiction | (intro z; cases z))
  · -- an expression alone
    simp only [Bool.and_eq_true] at h
    refine PS.weak (ps_expr (ee _ _ h.2) (swaps_of h.1)) fun D σ H ⟨ρ, h, en, R, RE, z⟩ => ?_
    rw [evS] at z
    exact ⟨ρ, h, en, R, RE, PostS.of RE z fun d h1 ρ1 H1 v f1 R1 RE1 r1 z1 => PostS.nx_ R1 RE1 z1⟩
  · -- a name from a comprehension
    simp only [Bool.and_eq_true, decide_eq_true_eq, Bool.not_eq_true'] at h
    obtain ⟨⟨⟨⟨⟨h1, h2⟩, h3⟩, h4⟩, h5⟩, h6⟩ := h
    obtain ⟨tg, it, ifs, rfl, own, wi, g, tt, te, hi, ok, hg, ht, he, hs, cv⟩ := lc_okA c.toCtx tk h5 h6
    refine PS.weak (ps_setLc c.calm nd (by rw [c.nm]; exact h1) (by rw [c.hsc]; exact h2) (sw_true (by rw [c.hsc]; exact c.knd) (by rw [c.hsc]; exact h2) h3 h4) hi ok hg ht he hs) fun D σ H ⟨ρ, h, en, R, RE, z⟩ => ?_
    rw [evS] at z
    exact cv _ _ _ ⟨ρ, h, en, R, RE, PostS.of RE z fun d h1 ρ1 H1 v f1 R1 RE1 r1 z1 => PostS.nx_ R1 (RE1.set _ r1) z1⟩
  · -- a name
    simp only [Bool.and_eq_true, decide_eq_true_eq] at h
    obtain ⟨⟨⟨h1, h2⟩, h3⟩, h4⟩ := h
    obtain ⟨l1, l2⟩ := c.loc h2
    refine PS.weak (ps_set nd (by rw [c.nm]; exact h1) l1 (ee _ _ h4) (swaps_of h3) l2) fun D σ H ⟨ρ, h, en, R, RE, z⟩ => ?_
    rw [evS] at z
    exact ⟨ρ, h, en, R, RE, PostS.of RE z fun d h1 ρ1 H1 v f1 R1 RE1 r1 z1 => PostS.nx_ R1 (RE1.set _ r1) z1⟩
  · -- names from as many
    simp only [Bool.and_eq_true] at h
    obtain ⟨⟨h1, h2⟩, h3⟩ := h
    split at h3
    · split at h3
      · rename_i e
        exact PS.weak (asg_tup (pe_tup (ees _ _ h2)) (tup_pg c h1) rfl (swF_ok c.hsc e)) fun D σ H => par_conv ⟨by simp, by simp⟩
      · rename_i e
        simp only [Bool.and_eq_true, decide_eq_true_eq] at h3
        obtain ⟨⟨⟨rfl, e1⟩, e2⟩, e3⟩ := h3
        simp only [namesB, Bool.and_eq_true, decide_eq_true_eq] at h1
        obtain ⟨⟨n1, _⟩, ⟨n2, _⟩, _⟩ := h1
        exact PS.weak (ps_par c.calm nd (by rw [c.nm]; exact n1) (by rw [c.nm]; exact n2) e1 (by rw [c.hsc]; exact e2) (by rw [c.hsc]; exact e3) (ees _ _ h2) (swF_ok c.hsc e) rfl) fun D σ H => par2_conv
      · cases h3
    · split at h3
      · rename_i e
        exact PS.weak (asg_tup (pe_tup (ees _ _ h2)) (tup_pg c h1) rfl (swF_ok c.hsc e)) fun D σ H => par_conv ⟨by simp, by simp⟩
      · rename_i e
        simp only [Bool.and_eq_true, decide_eq_true_eq] at h3
        obtain ⟨⟨⟨⟨⟨⟨rfl, e1⟩, e2⟩, e3⟩, e4⟩, e5⟩, e6⟩ := h3
        simp only [namesB, Bool.and_eq_true, decide_eq_true_eq] at h1
        obtain ⟨⟨n1, _⟩, ⟨n2, _⟩, ⟨n3, _⟩, _⟩ := h1
        exact PS.weak (ps_par3 c.calm nd (by rw [c.nm]; exact n1) (by rw [c.nm]; exact n2) (by rw [c.nm]; exact n3) e1 e2 e3 (by rw [c.hsc]; exact e4) (by rw [c.hsc]; exact e5) (by rw [c.hsc]; exact e6) (ees _ _ h2) (swF_ok c.hsc e)) fun D σ H => par3_conv
      · cases h3
    · simp only [Bool.and_eq_true, decide_eq_true_eq] at h3
      exact PS.weak (asg_tup (pe_tup (ees _ _ h2)) (tup_pg c h1) rfl (swF_ok c.hsc h3.1)) fun D σ H => par_conv ⟨by simp, Nat.le_trans h3.2 (by decide)⟩
    · cases h3
  · -- names from a tuple
    simp only [Bool.and_eq_true, decide_eq_true_eq] at h
    obtain ⟨⟨⟨⟨h1, h2⟩, h3⟩, h4⟩, h5⟩ := h
    exact PS.weak (asg_tup (ee _ _ h5) (tup_pg c h1) h3 (sw_none h2)) fun D σ H => unp_conv
  · -- a field
    simp only [Bool.and_eq_true, decide_eq_true_eq] at h
    obtain ⟨⟨⟨h1, h2⟩, h4⟩, h5⟩ := h
    subst h1
    exact PS.weak (ps_fld (ee _ _ h4) (ee _ _ h5) swaps_fld) fun D σ H => setF_conv c.toCtx (List.contains_iff_mem.mp h2)
  · -- a place
    simp only [Bool.and_eq_true] at h
    obtain ⟨⟨⟨⟨h1, h2⟩, h3⟩, h4⟩, h5⟩ := h
    exact PS.weak (ps_asg (ee _ _ h5) (pg_sub (ee _ _ h3) (ee _ _ h4) set_list (sub_asg h1)) (swaps1 h2) sw_sub rfl) fun D σ H => setI_conv
  · -- name op= e
    simp only [Bool.and_eq_true, decide_eq_true_eq] at h
    obtain ⟨⟨⟨h1, h2⟩, h3⟩, h4⟩ := h
    obtain ⟨l1, l2⟩ := c.loc h2
    exact PS.weak (ps_aug nd (by rw [c.nm]; exact h1) l1 (ee _ _ h4) (aug_ok h3) l2) fun D σ H => aug_conv
  · refine PS.weak (ps_ret (ee _ _ h)) fun D σ H ⟨ρ, h, en, R, RE, z⟩ => ?_
    rw [evS] at z
    exact ⟨ρ, h, en, R, RE, PostS.of RE z fun d h1 ρ1 H1 v f1 R1 RE1 r1 z1 => z1 ρ1 H1 v (Fr.refl _ _) R1 r1⟩
  · refine PS.weak ps_retN fun D σ H ⟨ρ, h, en, R, RE, z⟩ => ?_
    rw [evS] at z
    exact z ρ H .non (Fr.refl _ _) R (rep_non.mpr rfl)
  · simp only [Bool.and_eq_true] at h
    obtain ⟨⟨h1, h2⟩, h3⟩ := h
    exact PS.weak (ps_if (et _ _ h1) (ih X W c tk _ _ h2) (ih X W c tk _ _ h3)) fun D σ H => branchS
  · -- for
    simp only [Bool.and_eq_true] at h
    obtain ⟨⟨⟨h1, h2⟩, h3⟩, h4⟩ := h
    exact PS.weak (ps_for c.own c.calm (pi_seq (ee _ _ h3)) (tg_pg c h1) (ih X W c tk _ _ h4) (folded h2)) fun D σ H => for_conv
  · simp only [Bool.and_eq_true, decide_eq_true_eq] at h
    obtain ⟨⟨⟨⟨⟨h1, h2⟩, h3⟩, h4⟩, h5⟩, h6⟩ := h
    subst h1
    obtain ⟨g1, g2, g3⟩ := c.gl h2
    exact PS.weak (ps_for c.own c.calm (pi_range1 g1 (c.kok.free _ (by decide +kernel)) (pa_cons (ee _ _ h5) pa_nil (star_of h3)) (by rw [star_of h3]; rfl)) (tg_pg c h4) (ih X W c tk _ _ h6)) fun D σ H => for1_conv
  · simp only [Bool.and_eq_true, decide_eq_true_eq] at h
    obtain ⟨⟨⟨⟨⟨⟨⟨h1, h2⟩, h3⟩, h4⟩, h5⟩, h6⟩, h7⟩, h8⟩ := h
    subst h1
    obtain ⟨g1, g2, g3⟩ := c.gl h2
    obtain ⟨s1, s2⟩ := starsEach (env := X.env) h3 h4
    exact PS.weak (ps_for c.own c.calm (pi_range2 g1 (c.kok.free _ (by decide +kernel)) (pa_cons (ee _ _ h6) (pa_cons (ee _ _ h7) pa_nil (star_of h4)) (star_of h3)) s1 s2) (tg_pg c h5) (ih X W c tk _ _ h8)) fun D σ H => for2_conv
  · simp only [Bool.and_eq_true, decide_eq_true_eq] at h
    obtain ⟨⟨⟨⟨⟨h1, h2⟩, h3⟩, h4⟩, h5⟩, h6⟩ := h
    subst h1
    obtain ⟨g1, g2, g3⟩ := c.gl h2
    exact PS.weak (ps_for c.own c.calm (pi_enum2 g1 (c.kok.free _ (by decide +kernel)) (pa_cons (ee _ _ h5) pa_nil (star_of h3)) (by rw [star_of h3]; rfl)) (tg_pg c h4) (ih X W c tk _ _ h6)) fun D σ H => enum_conv
  · simp only [Bool.and_eq_true] at h
    exact PS.weak (ps_while c.own (et _ _ h.1) (ih X W c tk _ _ h.2)) fun D σ H => whS
  · simp only [Bool.and_eq_true] at h
    obtain ⟨⟨⟨h1, h2⟩, h3⟩, h4⟩ := h
    exact raise_ps c tk (List.contains_iff_mem.mp h1) h2 h3 h4 (ees _ _ h4)
  · -- try
    simp only [Bool.and_eq_true] at h
    obtain ⟨l, k1, k2⟩ := hs_ok c _ _ h.2
    refine PS.weak (ps_try_all (Wo := W) c.stk c.frm nd tk (tb := fun W => tSs X.K C F W _) (fun W' pn xe tk' o => ih (X.tr pn xe) W' (c.tr o) tk' _ _ h.1) k1) fun D σ H ⟨ρ, h, en, R, RE, z⟩ => ?_
    rw [evS] at z
    refine ⟨ρ, h, en, R, RE, ?_⟩
    cases ho : evSs F _ en h with
    | ex x2 en2 h2 => rw [ho] at z; exact fun ρ' H' σ' cls dd f R' RE' rx => k2 W D ρ' H' h2 en2 σ' x2 cls dd R' RE' rx (PostS.from_ f z)
    | nx en2 h2 => rw [ho] at z; exact z
    | rt d2 h2 => rw [ho] at z; exact z
    | bk en2 h2 => rw [ho] at z; exact z
    | stuck => rw [ho] at z; exact noS z
  · refine PS.weak ps_break fun D σ H ⟨ρ, h, en, R, RE, z⟩ => ?_
    rw [evS] at z
    exact z ρ H σ (Fr.refl _ _) R RE
  · refine PS.weak ps_pass fun D σ H ⟨ρ, h, en, R, RE, z⟩ => ?_
    rw [evS] at z
    exact PostS.nx_ R RE z
  · cases h
theorem okSs_step (n : Nat) (ihs : ∀ (X : Cx) (W : WX), CtxS T C F k sc N X → Takes X W → ∀ s A, okS T F.gl sc N n s A = true → PS X s (tS X.K C F W A)) (ih : ∀ (X : Cx) (W : WX), CtxS T C F k sc N X → Takes X W → ∀ ss As, okSs T F.gl sc N n ss As = true → PSs X ss (tSs X.K C F W As)) :
    ∀ (X : Cx) (W : WX), CtxS T C F k sc N X → Takes X W → ∀ ss As, okSs T F.gl sc N (n + 1) ss As = true → PSs X ss (tSs X.K C F W As) := by
  intro X W c tk ss As h
  unfold okSs at h
  split at h
  · refine PSs.weak pss_nil fun D σ H ⟨ρ, h, en, R, RE, z⟩ => ?_
    rw [evSs] at z
    exact PostS.nx_ R RE z
  · simp only [Bool.and_eq_true] at h
    exact PSs.weak (pss_cons (ihs X W c tk _ _ h.1) (ih X W c tk _ _ h.2)) fun D σ H => seqS
  · cases h
theorem okS_all (n : Nat) : ∀ (X : Cx) (W : WX), CtxS T C F k sc N X → Takes X W → (∀ s A, okS T F.gl sc N n s A = true → PS X s (tS X.K C F W A)) ∧ (∀ ss As, okSs T F.gl sc N n ss As = true → PSs X ss (tSs X.K C F W As)) := by
  induction n with
  | zero => exact fun X W c tk => ⟨fun s A h => (by cases h), fun s A h => (by cases h)⟩
  | succ n ih => exact fun X W c tk => ⟨okS_step n (fun X W c tk => (ih X W c tk).2) X W c tk, okSs_step n (fun X W c tk => (ih X W c tk).1) (fun X W c tk => (ih X W c tk).2) X W c tk⟩
end
end Mi

set_option Elab.async false
set_option linter.all false
set_option maxRecDepth 100000
set_option maxHeartbeats 2000000
/-! MiX: an own exception class whose __init__ says super().__init__(text) and keeps its arguments as fields. -/
namespace Mi
open PySem L2
/-- what a text takes -/
def XU (u : Value) : Prop := (∃ (y : Str) (t : Tok), u = .str y t ∧ y.length ≤ 1000) ∨ ∃ (i : Int) (t : Tok), u = .int i t ∧ i.natAbs < 2 ^ 63
/-- the text that the base is given -/
inductive XText (ps : List Str) : Expr → Prop
  | cst {m : Str} {j : Nat} {p : Pos} : XText ps (.Constant (.str m) j p)
  | fst {a b x : Str} {j j' : Nat} {p p1 p2 p3 p4 : Pos} (hx : x ∈ ps) (hd : (x == ("__debug__" : Str)) = false) (ha : a.length ≤ 1000) (hb : b.length ≤ 1000) :
      XText ps (.JoinedStr [.Constant (.str a) j p, .FormattedValue (.Name x p1) (-1) none p2, .Constant (.str b) j' p3] p4)
/-- self.f = f, one behind another -/
inductive XStores : List Stmt → List Str → Prop
  | nil : XStores [] []
  | cons {f : Str} {p1 p2 p3 pos : Pos} {r : List Stmt} {fs : List Str} (hd : (f == ("__debug__" : Str)) = false) (h : XStores r fs) : XStores (.Assign [.Attribute (.Name "self" p1) f p2] (.Name f p3) pos :: r) (f :: fs)
section
variable {prog : Program} {w : World} {M : Model} {A : Around} {E : Value → Shared → Prop} {h : Heap} {g : Array GenState} {d : Drawn} {t : Nat} {os : OsState} {env : Env} {m : Str → Option Value}
theorem txt_ok {ps : List Str} {e : Expr} (ht : XText ps e) (hk : env.scope.kind = .function) (hl : ∀ x ∈ ps, env.kindOf x = some .local) (hn : h.Ns env.locals m) (hm : ∀ x ∈ ps, ∃ u, m x = some u ∧ XU u) {Q : Value → Shared → Prop}
    (q : ∀ y t', Q (.str y t') ⟨h, g, d, t' + 1, os⟩) : wpAny (model prog w) A (eval e env) Q E ⟨h, g, d, t, os⟩ := by
  cases ht with
  | cst => exact Calls.Constant_str (q _ _)
  | @fst a b x j j' p p1 p2 p3 p4 hx hd ha hb =>
    obtain ⟨u, hu, xu⟩ := hm x hx
    refine wpAny_JoinedStr ?_
    have e0 : evalEach [.Constant (.str a) j p, .FormattedValue (.Name x p1) (-1) none p2, .Constant (.str b) j' p3] env = [eval (.Constant (.str a) j p) env, eval (.FormattedValue (.Name x p1) (-1) none p2) env, eval (.Constant (.str b) j' p3) env] := by first | rfl | simp [evalEach]
    rw [e0]
    have la : (Str.empty ++ a).length ≤ 1000 := by
      rw [Str.length_append]
      exact Nat.le_trans (Nat.le_of_eq (by simp [Str.empty, Str.length])) ha
    refine Calls.Constant_str ⟨a, _, rfl, by rw [sizeLine_eq]; omega, ?_⟩
    refine wpAny_FormattedValue_plain (wpAny_Name (wpAny_loadName_local hk (hl x hx) hn hu ?_) hd)
    have fin : ∀ (y : Str) (t1 t2 : Nat), y.length ≤ 2000 → Joins (model prog w) A E [eval (.Constant (.str b) j' p3) env] (Str.empty ++ a ++ y) (fun out s₁ => out.length ≤ sizeLine ∧ Q (.str out s₁.toks) { s₁ with toks := s₁.toks + 1 }) ⟨h, g, d, t2, os⟩ := fun y t1 t2 hy => by
      refine Calls.Constant_str ⟨b, _, rfl, ?_, ?_⟩
      · rw [Str.length_append, Str.length_append, sizeLine_eq]; omega
      · refine ⟨?_, q _ _⟩
        rw [Str.length_append, Str.length_append, sizeLine_eq]; omega
    rcases xu with ⟨y, t', rfl, hy⟩ | ⟨i, t', rfl, hi⟩
    · refine wpAny_formatField_str ⟨y, _, rfl, ?_, fin y 0 _ (by omega)⟩ ⟨y, _, rfl, ?_, fin y 0 _ (by omega)⟩ (by rw [sizeLine_eq]; omega)
      · rw [Str.length_append, sizeLine_eq]; omega
      · rw [Str.length_append, sizeLine_eq]; omega
    · have hz : i.natAbs.log2 < 1920 := by
        by_cases h0 : i.natAbs = 0
        · rw [h0]; decide
        · have := (Nat.log2_lt h0).mpr (show i.natAbs < 2 ^ 63 from hi)
          omega
      have hl := PyProof.Rows.int_text_len_1921 hz
      refine wpAny_formatField_int hz ⟨_, _, rfl, ?_, fin _ 0 _ (Nat.le_trans hl (by decide))⟩
      rw [Str.length_append, sizeLine_eq]
      have hl' : (Str.ofString (toString i)).length ≤ 1921 := hl
      show (Str.empty ++ a).length + (Str.ofString (toString i)).length ≤ _
      omega
end

/-- what the written part says of an own exception class and its __init__; f: the method; cc: the cell of __class__; cda: its code -/
structure XcK (P : Program) (K : PySem.W.Frag) (mg : Str → Option Value) (C : Addr) (ns : List Str) (fI cc cda : Addr) (fd : FuncData) (body : List Stmt) (scope : Scope) (te : Expr) (rest : List Stmt) : Prop where
  T : OexC K C
  iC : PySem.W.findIn K (.ref C) "__init__" = some (some (.ref fI))
  tI : PySem.W.typeIn K (.ref fI) = some (.type "function")
  lk : ∃ name qual params dV kV doc pm an ct oc od osl, fd = PySem.W.ksFn name qual params body scope dV kV doc pm an (.ref cda) ct cc ∧ K.lookup fI = some ⟨oc, od, .func fd, osl⟩ ∧ PySem.W.codeIn K (.ref cda) qual = true ∧ ∃ ar, (params.posonlyargs ++ params.args).head? = some ar ∧ ar.arg = "self"
  code : ∃ ccl cdd vs ccs file tf, K.lookup cda = some ⟨ccl, cdd, .fields vs, ccs⟩ ∧ vs[2]? = some (.str file tf) ∧ ((P.main.file : Str) == file) = true
  cell : ∃ cl cld csl, K.lookup cc = some ⟨cl, cld, .cell (some (.ref C)), csl⟩
  sub : PySem.W.mroIn K C (.ref C) = some true
  subVE : PySem.W.subIn K (.ref C) (.type "ValueError") = some true
  sup : PySem.W.ks_superIn K C C "__init__" = some (some (.builtin "ValueError.__init__"))
  stat : PySem.W.nsIn K PySem.cStatics "thirdparty.any" = some none
  mgS : mg "super" = none
  top : (P.main.scope.names.lookup ("super" : Str)).isSome = false
  bd : ∃ p0 p1 p2 p3 p4, (Pos.endLine p2 == Pos.line p3) = true ∧ body = .Expr (.Call (.Attribute (.Call (.Name "super" p0) [] [] p1) "__init__" p2) [te] [] p3) p4 :: rest
  text : XText ns te
  stores : XStores rest ns
  nd : (("self" : Str) :: ns).Nodup
  kind : scope.kind = .function
  co : scope.isCoroutine = false
  gen : scope.isGenerator = false
  nS : scope.names.lookup ("super" : Str) = some .globalImplicit
  nC : scope.names.lookup ("__class__" : Str) = some .free
  nP : ∀ x ∈ ("self" : Str) :: ns, scope.names.lookup x = some .local
  nc : ∀ x ∈ scope.names, x.2 ≠ .cell
  bind : ∀ us : List Value, us.length = ns.length + 1 → bindArgs fd ⟨us, []⟩ = pure ((("self" : Str) :: ns).zip us)
  no : ∀ f ∈ ns, PySem.W.findIn K (.ref C) f = some none
section
variable {prog : Program} {w : World} {A : Around} {E : Value → Shared → Prop} {h : Heap} {g : Array GenState} {d : Drawn} {t : Nat} {os : OsState} {m : Str → Option Value}
variable {K : PySem.W.Frag} {mg : Str → Option Value} {base : Heap} {C fI cc cda a L : Addr} {ns : List Str} {fd : FuncData} {body rest : List Stmt} {scope : Scope} {te : Expr}
open PySem.W in
/-- ValueError.__init__ bound to the exception, called -/
theorem mw_call {u t0 : Addr} {us : List Value} {Q : Value → Shared → Prop} (T : OexC K C) (X : K.In h) (ha : h.get? a = some (HandSPX.excO C t0)) (hu : h.get? u = some (kxs_mw "ValueError.__init__" a)) (hz : us.length ≤ sizeLine)
    (q : ∀ h', (∀ b o, b ≠ a → h.get? b = some o → h'.get? b = some o) → (∃ t1, h'.get? a = some (HandSPX.excO C t1)) → Q .none ⟨h', g, d, t, os⟩) : wpAny (model prog w) A (call (.ref u) us) Q E ⟨h, g, d, t, os⟩ := by
  obtain ⟨nm, qn, N, bs, bm, sn, sub, ab, col, dd, k0, k1, k2, k3, k5, hC, hbm⟩ := T.cls
  refine wpAny_call (codeAny_of_tree ?_)
  show wpAny _ A.in1 (callAny (.ref u) ⟨us, []⟩) _ _ _
  simp only [callAny]
  refine wpAny_bind (wpAny_load hu ?_)
  simp only [kxs_mw, show (Value.type "method-wrapper" == Value.type "method" || Value.type "method-wrapper" == Value.type "builtin_function_or_method" || Value.type "method-wrapper" == Value.type "method-wrapper") = true by decide, if_true]
  refine KFB.if_so (by decide) ?_
  refine wpAny_bind (check_bound_init F.excBase_ValueError.toExcCallFacts (X _ _ hC) ha rfl ?_)
  refine wpAny_bind (wpAny_pure (wpAny_pure ?_))
  refine ⟨plainId_quiet F.excBase_ValueError.init.plain _, codeAny_builtin F.excBase_ValueError.initEntry ?_⟩
  exact exc_init_tree (cls := .ref C) (t0 := t0) (dv := none) (c2 := .none) (c3 := .none) (b4 := .bool false) ha hz fun h' k e' _ => q h' k ⟨_, e'⟩

open PySem.W in
/-- super().__init__(text) -/
theorem sup_ok (c : XcK prog K mg C ns fI cc cda fd body scope te rest) (mod : Mod K mg base) (bk : ∀ b o, base.get? b = some o → h.get? b = some o) (hn : h.Ns L m) (hself : m "self" = some (.ref a)) (hm : ∀ x ∈ ns, ∃ u, m x = some u ∧ XU u)
    {t0 : Addr} (ha : h.get? a = some (HandSPX.excO C t0)) {qual : Str} {s1 : Stmt} (hb : body = s1 :: rest) {Q : Flow → Shared → Prop}
    (q : ∀ h' t', (∀ b o, b ≠ a → h.get? b = some o → h'.get? b = some o) → (∃ t1, h'.get? a = some (HandSPX.excO C t1)) → Q .next ⟨h', g, d, t', os⟩) :
    _root_.PySem.wpAt (model prog w) A (.func body (ksEnv qual scope L fI (.ref cda) cc)) (exec s1 (ksEnv qual scope L fI (.ref cda) cc)) Q E ⟨h, g, d, t, os⟩ := by
  obtain ⟨p0, p1, p2, p3, p4, hline, hbd⟩ := c.bd
  obtain ⟨rfl, -⟩ := List.cons.inj (hb.symm.trans hbd)
  obtain ⟨name, qual', params, dV, kV, doc, pm, an, ct, oc, od, osl, rfl, lk, hcd, ar, har, hself'⟩ := c.lk
  obtain ⟨ccl, cdd, vs, ccs, file, tf, hcode, hvs, hfile⟩ := c.code
  obtain ⟨cl, cld, csl, hcell⟩ := c.cell
  have X : K.In h := mod.kin.keeps bk
  obtain ⟨nm, qn, N, bs, bm, sn, sub, ab, col, dd, k0, k1, k2, k3, k5, hC, hbm⟩ := c.T.cls
  obtain ⟨mb, hmb, hbi⟩ := mod.blt
  have hcl : (clsIn K C) = some { name := nm, bases := bs, mro := .ref C :: bm, ns := N, qualname := qn, hasDict := true, slotNames := sn, subclasses := sub, abstract := ab, collection := col, hasDel := false } := by unfold clsIn; rw [hC]
  have ht0 := c.text
  cases ht0
  all_goals
    refine ks_wpAt_Expr_any (ks_wpAt_MethodCall (pl := (do return (← importBound (.Call (.Name "super" p0) [] [] p1) (ksEnv qual scope L fI (.ref cda) cc)).getD true)) ?_ (by rw [eval]; unfold methodCall methodCallPos calleeOf; simp only [hline, Bool.or_true, if_true, pure_bind]; rfl)) (by unfold interactive; simp [c.kind]) (by rfl)
    refine ks_wpAt_super_base (env := ksEnv qual scope L fI (.ref cda) cc) c.nS c.nC (by decide +kernel) rfl (X _ _ lk) rfl har rfl (X _ _ hcode) rfl hvs hfile c.top ?_
    refine ks_loadName_global c.kind c.nS (Calls.loadGlobal_builtin (mod.glob.keeps bk) c.mgS (hmb.keeps bk) ((hbi _ (by decide +kernel)).trans (by decide +kernel : bootBuiltins "super" = some (.type "super"))) ⟨rfl, ?_⟩)
    refine wpAny_loadName_free c.kind c.nC rfl ⟨_, X _ _ hcell, rfl⟩ ?_
    refine wpAny_loadName_local c.kind (by rw [hself']; exact c.nP _ (List.mem_cons_self ..)) hn (by rw [hself']; exact hself) ?_
    refine ks_wpAny_isType_cls (X _ _ hC) rfl ⟨rfl, ?_⟩
    refine ks_wpAny_call_super (X _ _ hC) rfl ha rfl (fun c e => by cases e) (looks_mroIn X c.sub) (fun h1 e1 k1' => ?_)
    have X1 : K.In h1 := X.keeps k1'
    have ha1 := k1' _ _ ha
    have I1 : InstAt h1 a (HandSPX.excO C t0) C none := ⟨ha1, rfl, rfl, trivial⟩
    refine kxs_getMethod kxs_ValueError e1 (looks_opaque X1 c.stat) (l₀ := .ref C :: bm) ?_ rfl X1 (name := "__init__") (by have := c.sup; unfold ks_superIn at this; rw [hcl] at this; exact this) (I1.type.andThen (looks_subIn X1 c.subVE)) (ks_ne X1 I1 hcl) (by decide +kernel) ?_
    · exact fun A Q E s k q => wpAny_bind ((looks_clsIn X1 hcl) A _ E s k (wpAny_pure q))
    have k2' : ∀ b o, h1.get? b = some o → (h1.push (kxs_mw "ValueError.__init__" a)).get? b = some o := fun b o e => Heap.get?_push_of_some _ e
    have bk2 : ∀ b o, h.get? b = some o → (h1.push (kxs_mw "ValueError.__init__" a)).get? b = some o := fun b o e => k2' _ _ (k1' b o e)
    have hu : (h1.push (kxs_mw "ValueError.__init__" a)).get? h1.objs.size = some (kxs_mw "ValueError.__init__" a) := Heap.get?_push_size h1 rfl
    rw [show ∀ {e : Expr} {env : Env}, XText ns e → starEach [e] env = (false, eval e env) :: [] from fun ht => by cases ht <;> rfl]
    rotate_left
    · exact c.text
    refine kxs_callWith (i := "ValueError.__init__") (x := a) (by rfl) ?_
    refine Calls.evalArgs_plain (Calls.spliced_cons (txt_ok (env := ksEnv qual scope L fI (.ref cda) cc) c.text c.kind (fun x hx => c.nP x (List.mem_cons_of_mem _ hx)) (hn.keeps bk2) hm fun y t' => Calls.spliced_nil ⟨hu, ?_⟩))
    refine mw_call c.T (X.keeps bk2) (k2' _ _ ha1) hu (by show 1 ≤ sizeLine; rw [sizeLine_eq]; omega) fun h' k' e' => q h' _ (fun b o hb e => k' b o hb (bk2 b o e)) e'

/-- where the fields lie: none as yet, or in a dict -/
def XAt (C a : Addr) (dd : Option Addr) (gs : List (Str × V)) (h : Heap) : Prop :=
  (∃ t1 : Addr, h.get? a = some ({ cls := .ref C, dict := dd, data := .fields #[.ref t1, .none, .none, .none, .bool false, .none] } : Obj)) ∧ match dd with
    | none => gs = []
    | some dx => dx ≠ a ∧ ∃ mA, h.Ns1 dx mA ∧ ∀ f, _root_.L2.RelO (gs.lookup f) (mA f)
/-- self.f = f, one behind another -/
theorem stores_ok (T : OexC K C) {env : Env} (hk : env.scope.kind = .function) (hsl : env.kindOf "self" = some .local) {h0 : Heap} {vm : Str → Option V} (X0 : K.In h0) (na : h0.get? a = none) (hs : m "self" = some (.ref a)) (hne : env.locals ≠ a) :
    ∀ {rest : List Stmt} {fs : List Str} {h : Heap} {t : Nat} {dd : Option Addr} {gs : List (Str × V)}, XStores rest fs → (∀ f ∈ fs, env.kindOf f = some .local) → (∀ f ∈ fs, PySem.W.findIn K (.ref C) f = some none) → h.Ns env.locals m →
    (∀ f ∈ fs, ∃ v u, vm f = some v ∧ m f = some u ∧ RelV v u) → XAt C a dd gs h → gs.length + fs.length ≤ 900 → (∀ b o, h0.get? b = some o → h.get? b = some o) → (∀ dx, dd = some dx → h0.objs.size ≤ dx ∧ env.locals ≠ dx) → (dd = none → h0.objs.size ≤ h.objs.size) →
    ∀ {Q : Flow → Shared → Prop}, (∀ h' t' dd' gs', (∀ b o, h0.get? b = some o → h'.get? b = some o) → (∀ dx, dd' = some dx → h0.objs.size ≤ dx) → XAt C a dd' gs' h' → (dd' = none → fs = [] ∧ dd = none) → (∀ f, f ∉ fs → gs'.lookup f = gs.lookup f) → (∀ f ∈ fs, fs.Nodup → gs'.lookup f = vm f) → Q .next ⟨h', g, d, t', os⟩) →
    wpAny (model prog w) A (execs rest env) Q E ⟨h, g, d, t, os⟩
  | _, _, h, t, dd, gs, .nil, _, _, _, _, x, _, k0, kd, _, Q, q => wpAny_execs_nil (q h t dd gs k0 (fun dx e => (kd dx e).1) x (fun e => ⟨rfl, e⟩) (fun _ _ => rfl) (fun f hf => by cases hf))
  | _, _, h, t, dd, gs, .cons (f := f) (fs := fs) hd hr, hl, hno, hn, hm, x, hz, k0, kd, ksz, Q, q => by
    obtain ⟨v, u, hv, hu, rv⟩ := hm f (List.mem_cons_self ..)
    refine wpAny_execs_cons (plainObj_wpAny_Assign_Attribute (wpAny_Name (wpAny_loadName_local hk (hl f (List.mem_cons_self ..)) hn hu ?_) hd) (by rfl))
    refine wpAny_Name (wpAny_loadName_local hk hsl hn hs ?_) (by decide +kernel)
    obtain ⟨⟨t1, ha⟩, xd⟩ := x
    obtain ⟨nm, qn, N, bs, bm, sn, sub, ab, col, ddc, k0', k1, k2, k3, k5, hC, hbm⟩ := T.cls
    have hcl : PySem.W.clsIn K C = some { name := nm, bases := bs, mro := .ref C :: bm, ns := N, qualname := qn, hasDict := true, slotNames := sn, subclasses := sub, abstract := ab, collection := col, hasDel := false } := by unfold PySem.W.clsIn; rw [hC]
    have X : K.In h := X0.keeps k0
    have ha0 : ∀ {b : Addr} {o : Obj}, h0.get? b = some o → b ≠ a := fun {b o} e z => by rw [z, na] at e; cases e
    have next : ∀ (h' : Heap) (t' : Nat) (dx : Addr), (∀ b o, h0.get? b = some o → h'.get? b = some o) → h0.objs.size ≤ dx → env.locals ≠ dx → XAt C a (some dx) ((f, v) :: gs) h' → h'.Ns env.locals m →
        wpAny (model prog w) A (execs _ env) Q E ⟨h', g, d, t', os⟩ := fun h' t' dx kk nd nl x' hn' => by
      refine stores_ok T hk hsl X0 na hs hne hr (fun f hf => hl f (List.mem_cons_of_mem _ hf)) (fun f hf => hno f (List.mem_cons_of_mem _ hf)) hn' (fun f hf => hm f (List.mem_cons_of_mem _ hf)) x' (by simp only [List.length_cons] at hz ⊢; omega) kk (fun dx' e => by cases e; exact ⟨nd, nl⟩) (fun e => by cases e)
        fun h2 t2 dd2 gs2 k2 kd2 x2 e2 lo li => q h2 t2 dd2 gs2 k2 kd2 x2 (fun e => by obtain ⟨_, z⟩ := e2 e; cases z) (fun y hy => ?_) (fun y hy nd' => ?_)
      · rw [lo y fun z => hy (List.mem_cons_of_mem _ z), lookup_put, if_neg fun z => hy (by rw [z]; exact List.mem_cons_self ..)]
      · obtain ⟨n1, n2⟩ := List.nodup_cons.mp nd'
        rcases List.mem_cons.mp hy with rfl | hy'
        · rw [lo y n1, lookup_put, if_pos rfl, hv]
        · exact li y hy' n2
    obtain ⟨oL, es, ep, hL, hrest⟩ := hn
    cases dd with
    | none =>
      refine PySem.W.set_plain X (ox := { cls := .ref C, dict := none, data := .fields #[.ref t1, .none, .none, .none, .bool false, .none] }) (od := none) ⟨ha, rfl, rfl, trivial⟩ T.sa ?_
      refine PySem.HandSPX.exc_osa X ha hcl (show PySem.HandSPX.refsVE (.ref C :: bm) = true from hbm) rfl (hno f (List.mem_cons_self ..)) (fun h' tk' dx k dn dne hx hn2 => ?_)
      have nd : h.get? dx = none := Heap.get?_none_of_le dn
      have nd0 : h0.objs.size ≤ dx := Nat.le_trans (ksz rfl) dn
      have nl : env.locals ≠ dx := fun z => by rw [z, nd] at hL; cases hL
      refine next h' tk' dx (fun b o e => k b o (ha0 e) (k0 b o e)) nd0 nl ⟨⟨t1, hx⟩, dne, _, hn2, relO_put (fs := gs) rv fun y => ?_⟩ ⟨oL, es, ep, k _ _ hne hL, hrest⟩
      rw [show gs = [] from xd]
      exact True.intro
    | some dx =>
      obtain ⟨dne, mA, hns, rel⟩ := xd
      have hw := within_of rel
      obtain ⟨oD, es', ep', hoD, hr'⟩ := id hns
      obtain ⟨nd0, nl⟩ := kd dx rfl
      refine PySem.W.set_plain X (ox := { cls := .ref C, dict := some dx, data := .fields #[.ref t1, .none, .none, .none, .bool false, .none] }) (od := some oD) ⟨ha, rfl, rfl, hoD⟩ T.sa ?_
      refine PySem.OEX.osa_old X ha hns hw (by rw [List.length_map]; omega) hcl (show PySem.HandSPX.refsVE (.ref C :: bm) = true from hbm) rfl (hno f (List.mem_cons_self ..)) (fun h' tk' k hn2 => ?_)
      exact next h' tk' dx (fun b o e => k b o (fun z => by rw [z, Heap.get?_none_of_le nd0] at e; cases e) (k0 b o e)) nd0 nl ⟨⟨t1, k _ _ (Ne.symm dne) ha⟩, dne, _, hn2, relO_put rv rel⟩ ⟨oL, es, ep, k _ _ nl hL, hrest⟩

theorem look_nodup {α : Type} {x : Str} {u : α} : ∀ {l : List (Str × α)}, (l.map (·.1)).Nodup → (x, u) ∈ l → l.lookup x = some u
  | [], _, h => by cases h
  | (y, w) :: l, nd, h => by
    obtain ⟨n1, n2⟩ := List.nodup_cons.mp nd
    rw [List.lookup]
    rcases List.mem_cons.mp h with e | h
    · cases e; simp
    · have : (x == y) = false := by
        cases hb : (x == y) with
        | false => rfl
        | true =>
          rw [beq_iff_eq] at hb
          subst hb
          exact absurd (show x ∈ l.map (·.1) from List.mem_map.mpr ⟨(x, u), by first | assumption | simpa using h, rfl⟩) n1
      rw [this]
      exact look_nodup n2 h
theorem look_rev {α : Type} {x : Str} {u : α} {l : List (Str × α)} (nd : (l.map (·.1)).Nodup) (h : (x, u) ∈ l) : l.reverse.lookup x = some u :=
  look_nodup (by rw [List.map_reverse]; exact (List.pairwise_reverse.mpr (nd.imp fun h => Ne.symm h))) (List.mem_reverse.mpr h)
theorem zip_keys {α : Type} : ∀ {ns : List Str} {us : List α}, us.length = ns.length → (ns.zip us).map (·.1) = ns
  | [], [], _ => rfl
  | [], _ :: _, h => by cases h
  | _ :: _, [], h => by cases h
  | n :: ns, u :: us, h => by
    show n :: _ = _
    exact congrArg (n :: ·) (zip_keys (by simpa using h))
/-- parameters and arguments, side by side -/
theorem zip_args : ∀ {ns : List Str} {vs : List V} {us : List Value} {f : Str}, us.length = ns.length → Vals vs us → (∀ v ∈ vs, XArg v) → f ∈ ns → ∃ v u, (f, v) ∈ ns.zip vs ∧ (f, u) ∈ ns.zip us ∧ RelV v u ∧ XU u
  | n :: ns, v :: vs, u :: us, f, hl, .cons ru rr, hx, hf => by
    rcases List.mem_cons.mp hf with rfl | hf
    · refine ⟨v, u, List.mem_cons_self .., List.mem_cons_self .., ru, ?_⟩
      rcases hx v (List.mem_cons_self ..) with ⟨y, rfl, hy⟩ | ⟨i, rfl, hi⟩
      · obtain ⟨t, rfl⟩ := (show ∃ t, u = Value.str y t from ru)
        exact .inl ⟨y, t, rfl, hy⟩
      · obtain ⟨t, rfl⟩ := (show ∃ t, u = Value.int i t from ru)
        exact .inr ⟨i, t, rfl, hi⟩
    · obtain ⟨v', u', h1, h2, h3, h4⟩ := zip_args (by simpa using hl) rr (fun w hw => hx w (List.mem_cons_of_mem _ hw)) hf
      exact ⟨v', u', List.mem_cons_of_mem _ h1, List.mem_cons_of_mem _ h2, h3, h4⟩
  | [], _, _, _, _, _, _, hf => by cases hf
  | _ :: _, [], [], _, hl, .nil, _, _ => by cases hl
open PySem.W in
/-- the own __init__ runs -/
theorem init_run (c : XcK prog K mg C ns fI cc cda fd body scope te rest) (mod : Mod K mg base) {h0 : Heap} (bk0 : ∀ b o, base.get? b = some o → h0.get? b = some o) (k0 : ∀ b o, h0.get? b = some o → h.get? b = some o) (na : h0.get? a = none) (hsz : h0.objs.size ≤ h.objs.size) (hroom : A.depth < recursionLimit)
    {t0 : Addr} (ha : h.get? a = some (HandSPX.excO C t0)) {vs : List V} {us : List Value} (r : Vals vs us) (hl : vs.length = ns.length) (hx : ∀ v ∈ vs, XArg v) (hz : ns.length ≤ 900) {R : Result → Shared → Prop}
    (q : ∀ h' t' dd gs, (∀ b o, h0.get? b = some o → h'.get? b = some o) → (∀ dx, dd = some dx → h0.objs.size ≤ dx) → XAt C a dd gs h' → (dd = none → ns = []) → (∀ f v, (ns.zip vs).lookup f = some v → gs.lookup f = some v) → R (.ok (.ret .none)) ⟨h', g, d, t', os⟩) :
    codeAny (model prog w) A (.call (.ref fI) ⟨.ref a :: us, []⟩) R ⟨h, g, d, t, os⟩ := by
  obtain ⟨name, qual, params, dV, kV, doc, pm, an, ct, oc, od, osl, hfd, lk, hcd, ar, har, hself'⟩ := id c.lk
  have bk : ∀ b o, base.get? b = some o → h.get? b = some o := fun b o e => k0 b o (bk0 b o e)
  have X : K.In h := mod.kin.keeps bk
  have hul : us.length = ns.length := by rw [← r.length]; exact hl
  have hkeys : ((("self" : Str) :: ns).zip (.ref a :: us)).map (·.1) = ("self" : Str) :: ns := zip_keys (by simp [hul])
  have hnd : (((("self" : Str) :: ns).zip (.ref a :: us)).map (·.1)).Nodup := by rw [hkeys]; exact c.nd
  obtain ⟨n1, n2⟩ := List.nodup_cons.mp c.nd
  have bnd : BindsTo ⟨h, g, d, t, os⟩ fd ⟨.ref a :: us, []⟩ ((("self" : Str) :: ns).zip (.ref a :: us)) := .of_eq (c.bind _ (by simp [hul]))
  have hloc : ∀ x ∈ (("self" : Str) :: ns).zip (.ref a :: us), fd.scope.names.lookup x.1 = some .local := fun x hx => by
    rw [hfd]
    exact c.nP x.1 (List.of_mem_zip (show (x.1, x.2) ∈ _ from hx)).1
  obtain ⟨s1, hs1⟩ : ∃ s1, body = s1 :: rest := by obtain ⟨p0, p1, p2, p3, p4, _, e⟩ := c.bd; exact ⟨_, e⟩
  subst hfd
  refine ks_codeAny_call_defAt (body := body) hroom (X _ _ lk) rfl (mod.nolimit.keeps bk) (codeRec_of X hcd) rfl bnd c.nc hloc (fun h₁ hns hk₁ => ?_) c.co c.gen c.kind
  have e0 : execs body (callEnv (ksFn name qual params body scope dV kV doc pm an (.ref cda) ct cc) h.objs.size fI) = execs (s1 :: rest) (ksEnv qual scope h.objs.size fI (.ref cda) cc) := by rw [hs1]; rfl
  rw [e0]
  have hm : ∀ x ∈ ns, ∃ u, ((("self" : Str) :: ns).zip (.ref a :: us)).reverse.lookup x = some u ∧ XU u := fun x hxm => by
    obtain ⟨v, u, h1, h2, h3, h4⟩ := zip_args hul r hx hxm
    exact ⟨u, look_rev hnd (List.mem_cons_of_mem _ h2), h4⟩
  have hself : ((("self" : Str) :: ns).zip (.ref a :: us)).reverse.lookup ("self" : Str) = some (.ref a) := look_rev hnd (List.mem_cons_self ..)
  have hLa : h.objs.size ≠ a := fun z => by have := Heap.lt_size ha; rw [← z] at this; exact absurd this (Nat.lt_irrefl _)
  refine ks_wpAt_execs_cons ?_
  refine sup_ok c mod (fun b o e => hk₁ b o (bk b o e)) hns hself hm (hk₁ _ _ ha) hs1 fun h2 t2 k2 ⟨t1, e2⟩ => ?_
  have ne : ∀ {b : Addr} {o : Obj}, h0.get? b = some o → b ≠ a := fun {b o} e z => by rw [z, na] at e; cases e
  have hns2 : h2.Ns h.objs.size (fun x => ((("self" : Str) :: ns).zip (.ref a :: us)).reverse.lookup x) := by
    obtain ⟨oL, es, ep, hL, hr⟩ := hns
    exact ⟨oL, es, ep, k2 _ _ hLa hL, hr⟩
  refine wpAt_of_wpAny (stores_ok (vm := fun f => (ns.zip vs).lookup f) (h0 := h0) (dd := none) (gs := []) (env := ksEnv qual scope h.objs.size fI (.ref cda) cc) c.T c.kind (c.nP _ (List.mem_cons_self ..)) (mod.kin.keeps bk0) na hself hLa c.stores (fun f hf => c.nP f (List.mem_cons_of_mem _ hf)) c.no hns2 (fun f hf => ?_) ⟨⟨t1, e2⟩, rfl⟩ (by simpa using hz)
    (fun b o e => k2 b o (ne e) (hk₁ b o (k0 b o e))) (fun dx e => by cases e) (fun _ => by obtain ⟨oL, es, ep, hL, hr⟩ := hns2; exact Nat.le_trans hsz (Nat.le_of_lt (Heap.lt_size hL))) fun h' t' dd' gs' k' kd x' e1 lo li => q h' t' dd' gs' k' kd x' (fun e => (e1 e).1) fun f v hv => ?_)
  · obtain ⟨v, u, h1, h2', h3, h4⟩ := zip_args hul r hx hf
    exact ⟨v, u, look_nodup (by rw [zip_keys hl]; exact n2) h1, look_rev hnd (List.mem_cons_of_mem _ h2'), h3⟩
  · by_cases hf : f ∈ ns
    · rw [li f hf n2, hv]
    · exact absurd (List.of_mem_zip (PySem.mem_of_lookup hv)).1 hf

/-- C(..) makes the exception -/
theorem xc_call {X : Cx} {Cs : Cl} {cn k : Nat} (c : XcK X.prog X.K X.mg (Cs.at_ cn) ns fI cc cda fd body scope te rest) (hr : Room k X.A) (hz : ns.length ≤ 900) : XcCall X Cs cn ns := by
  intro pins s σ H vs us Q I r hl hx q
  obtain ⟨nm, qn, N, bs, bm, sn, sub, ab, col, dd, k0, k1, k2, k3, k5, hC, hbm⟩ := c.T.cls
  obtain ⟨hp, g, dr, tk, os⟩ := s
  have hul : us.length = ns.length := by rw [← r.length]; exact hl
  have hus : us.length ≤ sizeLine := by rw [hul, sizeLine_eq]; omega
  have na : hp.get? (hp.objs.size + 1) = none := Heap.get?_none_of_le (Nat.le_succ _)
  have hnH : H (hp.objs.size + 1) = none := I.hok.fresh (Nat.le_succ _)
  have kk : ∀ b o, hp.get? b = some o → ((hp.push (PySem.W.kdv_tup us)).push (PySem.HandSPX.excO (Cs.at_ cn) hp.objs.size)).get? b = some o := fun b o e => Heap.get?_push_of_some _ (Heap.get?_push_of_some _ e)
  have hget : ((hp.push (PySem.W.kdv_tup us)).push (PySem.HandSPX.excO (Cs.at_ cn) hp.objs.size)).get? (hp.objs.size + 1) = some (PySem.HandSPX.excO (Cs.at_ cn) hp.objs.size) := by heap_get
  refine wpAny_call (PySem.HandSPX.call_own F.excBase_ValueError (fun Y => PySem.HandSPX.refsVE_contains Y bm hbm) (I.kIn _ _ hC) (PySem.W.looks_findIn I.kIn c.iC) (fun self => PySem.W.bind_fn I.kIn self c.tI) hus ?_)
  have hroom : (X.A.under (.builtin "type.__call__" ⟨.ref (Cs.at_ cn) :: us, []⟩)).depth < recursionLimit := by rw [make_depth]; have := hr.dp; omega
  refine init_run c I.ok.mod (h0 := hp) (fun b o e => (I.bs b o e).1) kk na (by rw [Heap.size_push, Heap.size_push]; omega) hroom hget r hl hx hz fun h2 t2 dd' gs k' kd x' e1 lk => ⟨rfl, ?_⟩
  obtain ⟨⟨t1, hoe⟩, xd⟩ := x'
  obtain ⟨G, g1', g2'⟩ := restrict h2 fun b => decide (b ≠ hp.objs.size + 1)
  have gk : ∀ b, b ≠ hp.objs.size + 1 → G.get? b = h2.get? b := fun b hb => g1' b (decide_eq_true hb)
  have ge : G.get? (hp.objs.size + 1) = none := g2' _ (by simp)
  have kG : ∀ b o, hp.get? b = some o → G.get? b = some o := fun b o e => by
    rw [gk b (fun z => by rw [z, na] at e; cases e)]
    exact k' b o e
  have kG2 : ∀ b o, G.get? b = some o → h2.get? b = some o := fun b o z => by
    by_cases hb : b = hp.objs.size + 1
    · rw [hb, ge] at z; cases z
    · exact (gk b hb).symm.trans z
  have T := raises_own c.T.exC c.T.tyC
  cases dd' with
  | none =>
    have J : Inv X pins σ H ⟨G, g, dr, t2, os⟩ := I.kept (t' := t2) kG
    exact ⟨_, _, _, ⟨G, g, dr, t2, os⟩, H, .ref (Cs.at_ cn), none, rfl, J, kG2, ge, hoe, ⟨rfl, rfl⟩, rfl, rfl, hnH, rfl, I.bare, T, q none H (fun _ _ z => z) (fun _ z => z) (.inl ⟨e1 rfl, rfl⟩)⟩
  | some dx =>
    obtain ⟨dne, mA, hns, rel⟩ := xd
    have hsz := kd dx rfl
    have hdH : H dx = none := I.hok.fresh hsz
    have J : Inv X pins σ (upd H dx (.xd gs)) ⟨G, g, dr, t2, os⟩ := I.laid (t' := t2) kG hsz ⟨mA, hns.at fun o y => (gk dx dne).trans y, rel⟩
    refine ⟨_, _, _, ⟨G, g, dr, t2, os⟩, upd H dx (.xd gs), .ref (Cs.at_ cn), some dx, rfl, J, kG2, ge, hoe, ⟨rfl, rfl⟩, rfl, rfl, ?_, rfl, I.bare, T, q (some dx) _ (fun b o z => ?_) (fun b z => ?_) (.inr ⟨dx, gs, rfl, upd_same, lk⟩)⟩
    · rw [upd_ne (Ne.symm dne)]; exact hnH
    · rw [upd_ne (ne_of_none z hdH)]; exact z
    · by_cases hb : b = dx
      · rw [hb, upd_same] at z; cases z
      · rw [upd_ne hb] at z; exact z
end
end Mi

set_option Elab.async false
set_option linter.all false
set_option maxRecDepth 100000
set_option maxHeartbeats 2000000
/-! MiS: the sale's own __init__. -/
namespace Mi
open PySem L2
section
variable {K : PySem.W.Frag} {C : Cl} {ρ : List Addr} {H : Hp} {x dx : Addr} {fs : List (Str × V)} {u : HO}
theorem saleF_len {a b : Str} : (saleF a b).length = 2 := by
  unfold saleF
  rfl
theorem rd_off {p : Addr} {w : HO} (hx : H x = some (.ins C.sale dx fs)) (hw : ∀ c d f, w ≠ .ins c d f) (h : Rd H p w) : Rd (upd H x u) p w := by
  rcases h with h | ⟨o, h⟩
  · exact .inl (by rw [upd_ne (fun z => by rw [z, hx] at h; exact hw _ _ _ (Option.some.inj h).symm)]; exact h)
  · exact .inr ⟨o, by rw [upd_ne (fun z => by rw [z, hx] at h; cases h)]; exact h⟩
mutual
theorem rep_off (hx : H x = some (.ins C.sale dx fs)) (hl : fs.length < 2) : ∀ {d : D} {v : V}, Rep K C ρ H d v → Rep K C ρ (upd H x u) d v
  | .non, _, h => rep_non.mpr (rep_non.mp h)
  | .bl _, _, h => rep_bl.mpr (rep_bl.mp h)
  | .int _, _, h => rep_int.mpr (rep_int.mp h)
  | .str _, _, h => rep_str.mpr (rep_str.mp h)
  | .adr _, _, h => rep_adr.mpr (rep_adr.mp h)
  | .obj i, _, h => rep_obj.mpr (rep_obj.mp h)
  | .tup ds, _, h => by
    obtain ⟨p, vs, e, t, r⟩ := rep_tup.mp h
    exact rep_tup.mpr ⟨p, vs, e, t.imp (fun q => ⟨rd_off hx (by intro _ _ _ z; cases z) q.1, q.2⟩) id, reps_off hx hl r⟩
  | .lsF ds, _, h => by
    obtain ⟨p, vs, e, t, r⟩ := rep_lsF.mp h
    exact rep_lsF.mpr ⟨p, vs, e, t.imp (fun q => ⟨rd_off hx (by intro _ _ _ z; cases z) q.1, q.2⟩) id, reps_off hx hl r⟩
  | .sale a b, _, h => by
    obtain ⟨p, d, e, t, n⟩ := rep_sale.mp h
    refine rep_sale.mpr ⟨p, d, e, ?_, n⟩
    rw [upd_ne (fun z => ?_)]
    · exact t
    · rw [z, hx] at t
      have t' : HO.ins C.sale dx fs = HO.ins C.sale d (saleF a b) := Option.some.inj t
      injection t' with _ _ e3
      rw [e3, saleF_len] at hl
      omega
theorem reps_off (hx : H x = some (.ins C.sale dx fs)) (hl : fs.length < 2) : ∀ {ds : List D} {vs : List V}, Reps K C ρ H ds vs → Reps K C ρ (upd H x u) ds vs
  | [], _, h => by rw [Reps] at h ⊢; exact h
  | d :: ds, _, h => by
    rw [Reps] at h ⊢
    obtain ⟨v, us, e, a, b⟩ := h
    exact ⟨v, us, e, rep_off hx hl a, reps_off hx hl b⟩
end
theorem relH_off {h : List O} (hx : H x = some (.ins C.sale dx fs)) (hl : fs.length < 2) (n : x ∉ ρ) (R : RelH K C ρ H h) : RelH K C ρ (upd H x u) h := by
  refine ⟨R.len, R.nd, fun i a o e1 e2 => ?_⟩
  have r := R.at_ i a o e1 e2
  have hne : a ≠ x := fun z => n (by rw [← z]; exact List.mem_of_getElem? e1)
  have kv : ∀ {κ : Type} {l : List (κ × D)} {m : List (κ × V)}, KVs K C ρ H l m → KVs K C ρ (upd H x u) l m := fun h => Paired.mapP h fun _ _ z => ⟨z.1, rep_off hx hl z.2⟩
  cases o with
  | lst ds => obtain ⟨vs, q, z⟩ := r; exact ⟨vs, by rw [upd_ne hne]; exact q, reps_off hx hl z⟩
  | dT kvs =>
    obtain ⟨xs, q, z⟩ := r
    have tt : ∀ {p : Addr} {vs : List V}, TupS K ρ H p vs → TupS K ρ (upd H x u) p vs := fun {p vs} t => t.imp (fun q => ⟨rd_off hx (by intro _ _ _ z; cases z) q.1, q.2⟩) id
    exact ⟨xs, by rw [upd_ne hne]; exact q, Paired.mapP z fun _ _ ⟨h1, h2, v, h4, h5⟩ => ⟨h1, tt h2, v, h4, rep_off hx hl h5⟩⟩
  | dK kvs => obtain ⟨vs, q, z⟩ := r; exact ⟨vs, by rw [upd_ne hne]; exact q, kv z⟩
  | dN kvs =>
    obtain ⟨xs, q, z⟩ := r
    have tt : ∀ {p : Addr} {vs : List V}, TupS K ρ H p vs → TupS K ρ (upd H x u) p vs := fun {p vs} t => t.imp (fun q => ⟨rd_off hx (by intro _ _ _ z; cases z) q.1, q.2⟩) id
    exact ⟨xs, by rw [upd_ne hne]; exact q, Paired.mapP z fun _ _ ⟨h1, ⟨t, h2, h3⟩, v, h4, h5⟩ => ⟨h1, ⟨t, tt h2, tt h3⟩, v, h4, rep_off hx hl h5⟩⟩
  | dL kvs =>
    obtain ⟨o, xs, q, z⟩ := r
    have tt : ∀ {p : Addr} {vs : List V}, TupS K ρ H p vs → TupS K ρ (upd H x u) p vs := fun {p vs} t => t.imp (fun q => ⟨rd_off hx (by intro _ _ _ z; cases z) q.1, q.2⟩) id
    exact ⟨o, xs, by rw [upd_ne hne]; exact q, Paired.mapP z fun _ _ ⟨h1, h2, v, h4, h5⟩ => ⟨h1, tt h2, v, h4, rep_off hx hl h5⟩⟩
  | ins c fs => obtain ⟨dx, vs, q, z⟩ := r; exact ⟨dx, vs, by rw [upd_ne hne]; exact q, kv z⟩
end
/-! ### what it does -/
/-- is_one_of, the getters, the ties, BadGets, BadTies: by number -/
structure SalI where
  f : Nat
  g : Nat
  t : Nat
  cg : Nat
  ct : Nat
def salChk (f g i c : Nat) : S := .ite (.not (.call f (.cons (.var i) (.cons (.glob g) .nil)))) (.cons (.raise c .nil) .nil) .nil
def salBody (s : SalI) : Ss := .cons (salChk s.f s.g 1 s.cg) (.cons (salChk s.f s.t 2 s.ct) .nil)
def xcI (F : Fns) (c : Nat) (h : List O) : Out D := match mkX F c [] with
  | some x => .exc x h
  | none => .stuck
def chkI (F : Fns) (f g c : Nat) (d : D) (h : List O) (k : List O → Out D) : Out D := match F.gl[g]? with
  | some p => (F.fn f [d, p.2] h).bind fun b h => match truI b h with
    | some true => k h
    | some false => xcI F c h
    | none => .stuck
  | none => .stuck
def saleI (F : Fns) (s : SalI) (d1 d2 : D) (h : List O) : Out D := chkI F s.f s.g s.cg d1 h fun h => chkI F s.f s.t s.ct d2 h fun h => match d1, d2 with
  | .str a, .str b => .ok (.sale a b) h
  | _, _ => .stuck
section
variable {K : PySem.W.Frag} {C : Cl} {F : Fns} {ρ : List Addr} {H : Hp} {W : WX}
/-- what is known of an outcome, kept from heap to heap -/
structure Known (K : PySem.W.Frag) (C : Cl) (Pr : List Addr → Hp → Out D → Prop) (Wh : Value → Option Addr → Hp → Prop) : Prop where
  no : ∀ ρ H, ¬ Pr ρ H .stuck
  ex : ∀ ρ H x h, Pr ρ H (.exc x h) → ∀ ρ' H' cls dd, Fr ρ H ρ' H' → RelH K C ρ' H' h → RepX K C H' x cls dd → Wh cls dd H'
  up : ∀ ρ H ρ' H' o, Pr ρ H o → Fr ρ H ρ' H' → Pr ρ' H' o
theorem chk_ok {Pr : List Addr → Hp → Out D → Prop} {f g i c : Nat} {en : En} {d : D} {h : List O} {k : List O → Out D} {σ : St} {Dn : Ends} {Wh : Value → Option Addr → Hp → Prop} (kn : Known K C Pr Wh) (hi : en[i]? = some (some d)) (R : RelH K C ρ H h) (RE : RelE K C ρ H σ en) (p : Pr ρ H (chkI F f g c d h k))
    (hW : ∀ cls dd σ' H', Wh cls dd H' → W cls dd σ' H') (nx : ∀ h1 ρ1 H1 σ1, Fr ρ H ρ1 H1 → RelH K C ρ1 H1 h1 → RelE K C ρ1 H1 σ1 en → Pr ρ1 H1 (k h1) → Dn.nx σ1 H1) : PostS K C ρ H (evS F (salChk f g i c) en h) Dn W := by
  unfold chkI at p
  unfold salChk
  rw [evS]
  unfold evT
  rw [evE, evE, evEs, evE, hi]
  simp only [Out.bind_ok]
  rw [evEs, evE]
  cases hg : F.gl[g]? with
  | none => rw [hg] at p; exact (kn.no _ _ p).elim
  | some q =>
    rw [hg] at p
    simp only [Out.bind_ok, evEs]
    dsimp only at p
    cases ho : F.fn f [d, q.2] h with
    | stuck => rw [ho] at p; exact (kn.no _ _ p).elim
    | exc x h1 => rw [ho] at p; exact fun ρ' H' σ' cls dd f R' RE' rx => hW _ _ _ _ (kn.ex _ _ _ _ p ρ' H' cls dd f R' rx)
    | ok b h1 =>
      rw [ho] at p
      simp only [Out.bind_ok] at p ⊢
      cases hb : truI b h1 with
      | none => simp only [hb] at p; exact (kn.no _ _ p).elim
      | some t =>
        simp only [hb] at p
        cases t with
        | true =>
          simp only [hb, Bool.not_true, Out.bind_ok, truI, ofO, OS.of, Bool.false_eq_true, if_false, evSs]
          exact fun ρ1 H1 σ1 f R1 RE1 => nx h1 ρ1 H1 σ1 f R1 RE1 (kn.up _ _ _ _ _ p f)
        | false =>
          simp only [hb, Bool.not_false, Out.bind_ok, truI, ofO, OS.of, if_true, evSs, evS, evEs]
          unfold xcI at p
          cases hm : mkX F c [] with
          | none => simp only [hm] at p; exact (kn.no _ _ p).elim
          | some x =>
            simp only [hm] at p ⊢
            exact fun ρ' H' σ' cls dd f R' RE' rx => hW _ _ _ _ (kn.ex _ _ _ _ p ρ' H' cls dd f R' rx)
end
section
variable {T : Tab} {C : Cl} {F G : Fns} {k : Nat} {sc : Scope} {X : Cx} {s : SalI}
/-- the body's text -/
structure SalT (T : Tab) (gl : List (Str × D)) (sc : Scope) (s : SalI) (body : List Stmt) : Prop where
  ex : ∃ s1 s2 p1 p2 p3 p4 q1 q2 q3 q4, body = [s1, s2, .Assign [.Attribute (.Name "self" p1) "taker" p2] (.Name "gets" p3) p4, .Assign [.Attribute (.Name "self" q1) "favoured" q2] (.Name "ties" q3) q4] ∧
    okS T gl sc ["self", "gets", "ties"] 60 s1 (salChk s.f s.g 1 s.cg) = true ∧ okS T gl sc ["self", "gets", "ties"] 60 s2 (salChk s.f s.t 2 s.ct) = true
  vis : visB sc "self" = true ∧ visB sc "gets" = true ∧ visB sc "ties" = true
theorem sale_body {body : List Stmt} {E : XK} (hs0 : T.sl = true) (c : CtxS T C F k sc ["self", "gets", "ties"] X) (tk : Takes X (fun cls d _ H' => E cls d H')) (st : SalT T F.gl sc s body) (hG : ∀ d1 d2 h, G.mkS d1 d2 h = saleI F s d1 d2 h) {vs : List V} {H : Hp} {Q : VK} (hs : spS X.K C G vs H Q E) :
    ∃ t, PSs X body t ∧ t { nx := fun _ H' => Q .non H', rt := Q } (L2.start ["self", "gets", "ties"] vs) H := by
  obtain ⟨s1, s2, p1, p2, p3, p4, q1, q2, q3, q4, rfl, o1, o2⟩ := st.ex
  obtain ⟨y1, y2, y3⟩ := st.vis
  have S1 := (okS_all 60 X _ c tk).1 _ _ o1
  have S2 := (okS_all 60 X _ c tk).1 _ _ o2
  have e0 : PE X (.Name "self" p1) (tVar 0) := pe_var (by rw [c.nm]; rfl) (c.vis y1)
  have e0' : PE X (.Name "self" q1) (tVar 0) := pe_var (by rw [c.nm]; rfl) (c.vis y1)
  have e1 : PE X (.Name "gets" p3) (tVar 1) := pe_var (by rw [c.nm]; rfl) (c.vis y2)
  have e2 : PE X (.Name "ties" q3) (tVar 2) := pe_var (by rw [c.nm]; rfl) (c.vis y3)
  refine ⟨_, pss_cons S1 (pss_cons S2 (pss_cons (ps_fld e0 e1 (by rfl)) (pss_one (ps_fld e0' e2 (by rfl))))), ?_⟩
  obtain ⟨ρ, h, H1, x, dx, d1, d2, v1, v2, Q0, rfl, rfl, hx, hdx, hne, R, r1, r2, hQ, z⟩ := hs
  rw [hG] at z
  have hx2 : (upd H1 dx (.own x)) x = none := by rw [upd_ne (Ne.symm hne)]; exact hx
  have f1 : Fr ρ H1 ρ (upd H1 dx (.own x)) := Fr.new hdx
  have f2 : Fr ρ (upd H1 dx (.own x)) ρ (upd (upd H1 dx (.own x)) x (.ins C.sale dx [])) := Fr.new hx2
  have nx := R.notin hx
  have RE : RelE X.K C ρ (upd (upd H1 dx (.own x)) x (.ins C.sale dx [])) (L2.start ["self", "gets", "ties"] [.ref x, v1, v2]) [some (.adr x), some d1, some d2] := by
    refine ⟨rfl, fun i d e => ?_⟩
    match i, e with
    | 0, e => cases e; exact ⟨_, rfl, rep_adr.mpr rfl⟩
    | 1, e => cases e; exact ⟨_, rfl, (r1.mono f1).mono f2⟩
    | 2, e => cases e; exact ⟨_, rfl, (r2.mono f1).mono f2⟩
    | n + 3, e => cases e
  have kn : Known X.K C (fun ρ' H' o => Fr ρ (upd (upd H1 dx (.own x)) x (.ins C.sale dx [])) ρ' H' ∧ Post X.K C (Rep X.K C) ρ H1 o Q0 E) E :=
    ⟨fun ρ' H' q => stuck_no q.2, fun ρ' H' y h' q ρ2 H2 cls dd g R2 rx => q.2 ρ2 H2 cls dd (((f1.trans f2).trans q.1).trans g) R2 rx, fun ρ' H' ρ2 H2 o q g => ⟨q.1.trans g, q.2⟩⟩
  unfold saleI at z
  refine ⟨ρ, h, _, (R.new hdx).new hx2, RE, chk_ok (W := fun cls d _ H' => E cls d H') kn rfl ((R.new hdx).new hx2) RE ⟨Fr.refl _ _, z⟩ (fun _ _ _ _ q => q) fun h1 ρ1 Ha σ1 g1 R1 RE1 z1 => ?_⟩
  refine ⟨ρ1, h1, _, R1, RE1, chk_ok (W := fun cls d _ H' => E cls d H') kn rfl R1 RE1 z1 (fun _ _ _ _ q => q) fun h2 ρ2 Hb σ2 g2 R2 RE2 z2 => ?_⟩
  obtain ⟨w0, s0, t0⟩ := RE2.at_ 0 (.adr x) rfl
  obtain ⟨w1, s1', t1⟩ := RE2.at_ 1 d1 rfl
  obtain ⟨w2, s2', t2⟩ := RE2.at_ 2 d2 rfl
  obtain rfl := rep_adr.mp t0
  have hb : Hb x = some (.ins C.sale dx []) := z2.1.keep x _ upd_same nx
  have n2 : x ∉ ρ2 := z2.1.out upd_same nx
  have z3 := z2.2
  split at z3
  · rename_i a b
    obtain rfl := rep_str.mp t1
    obtain rfl := rep_str.mp t2
    refine ⟨_, s1', _, s0, x, C.sale, dx, [], rfl, hb, (c.kok.sale hs0).cl, (c.kok.sale hs0).nT, by decide, ?_⟩
    refine ⟨_, s2', _, s0, x, C.sale, dx, _, rfl, upd_same, (c.kok.sale hs0).cl, (c.kok.sale hs0).nF, by show 1 < 1000; omega, ?_⟩
    rw [upd_upd]
    refine hQ _ (z3 ρ2 _ (.ref x) ⟨fun b' o e n => ?_, fun b' e => ?_, ?_, fun b' o u e => ?_⟩ (relH_off hb (by decide) n2 R2) (rep_sale.mpr ⟨x, dx, rfl, upd_same, n2⟩))
    · have hbx : b' ≠ x := fun q => by rw [q, hx] at e; cases e
      rw [upd_ne hbx]
      exact ((f1.trans f2).trans z2.1).keep b' o e n
    · by_cases hbx : b' = x
      · rw [hbx]; exact hx
      · rw [upd_ne hbx] at e
        exact ((f1.trans f2).trans z2.1).free b' e
    · exact ((f1.trans f2).trans z2.1).ext
    · have hbx : b' ≠ x := fun q => by rw [q, hx] at e; cases e
      rw [upd_ne hbx]
      exact ((f1.trans f2).trans z2.1).lock b' o u e
  · exact stuck_no z3
end
end Mi

set_option Elab.async false
set_option linter.all false
set_option maxRecDepth 100000
set_option maxHeartbeats 2000000
/-! MiF: a program of such texts; each def keeps its promise, level by level. -/
namespace Mi
open PySem L2
structure DefI where
  np : Nat
  n : Nat
  body : Ss
def runB (F : Fns) (d : DefI) (ds : List D) (h : List O) : Out D := match evSs F d.body (ds.map some ++ List.replicate (d.n - ds.length) none) h with
  | .nx _ h => .ok .non h
  | .rt d h => .ok d h
  | .ex x _ h => .exc x h
  | _ => .stuck
structure PrI where
  defs : List DefI
  gl : List (Str × D) := []
  xc : List (List Str) := []
  sub : Nat → Nat → Bool := fun _ _ => false
  sl : Bool := true
  sal : SalI := ⟨0, 0, 0, 0, 0⟩
/-- calls, so many deep -/
def PrI.at_ (p : PrI) : Nat → Fns
  | 0 => { fn := fun _ _ _ => .stuck, gl := p.gl, xc := p.xc, sub := p.sub, sl := p.sl }
  | k + 1 => { fn := fun f ds h => (match p.defs[f]? with
    | some d => if ds.length = d.np then runB (p.at_ k) d ds h else .stuck
    | none => .stuck), gl := p.gl, xc := p.xc, sub := p.sub, sl := p.sl, pr := fldI, mkS := saleI (p.at_ k) p.sal }
theorem PrI.gl_at (p : PrI) (k : Nat) : (p.at_ k).gl = p.gl := by cases k <;> rfl
theorem PrI.sl_at (p : PrI) (k : Nat) : (p.at_ k).sl = p.sl := by cases k <;> rfl
theorem PrI.xc_at (p : PrI) (k : Nat) : (p.at_ k).xc = p.xc := by cases k <;> rfl
theorem PrI.sub_at (p : PrI) (k : Nat) : (p.at_ k).sub = p.sub := by cases k <;> rfl
/-- a def of the text and its text here -/
def DefAtF (T : Tab) (p : PrI) (K : PySem.W.Frag) (f : Nat) (a : Addr) (fd : FuncData) (ps : List Str) : Prop := ∃ (d : DefI) (x qual : Str) (params : Arguments) (body : List Stmt) (scope : Scope) (N : List Str), p.defs[f]? = some d ∧ FunD K x qual params body scope [] [] a fd ∧ FnScope N ps scope ∧ ps.length = d.np ∧ N.length = d.n ∧
  okSs T p.gl scope N 60 body d.body = true ∧ ∀ us : List Value, us.length = ps.length → bindArgs fd ⟨us, []⟩ = pure (ps.zip us)
def DefAt (T : Tab) (p : PrI) (K : PySem.W.Frag) (f : Nat) (a : Addr) : Prop := ∃ fd ps, DefAtF T p K f a fd ps
/-- the sale's own __init__ -/
def SaleAt (T : Tab) (C : Cl) (p : PrI) (K : PySem.W.Frag) : Prop := ∃ (f : Addr) (fd : FuncData) (x qual : Str) (params : Arguments) (body : List Stmt) (scope : Scope), Mk K C.sale f ∧ FunD K x qual params body scope [] [] f fd ∧ FnScope ["self", "gets", "ties"] ["self", "gets", "ties"] scope ∧ SalT T p.gl scope p.sal body ∧
  ∀ us : List Value, us.length = 3 → bindArgs fd ⟨us, []⟩ = pure ((["self", "gets", "ties"] : List Str).zip us)
/-- a getter of one of the sale's fields -/
structure GetAt (K : PySem.W.Frag) (C : Cl) (q : Str × Str) : Prop where
  ex : ∃ p g fd, PropOf K C.sale q.1 p g ∧ Binds K fd ["self"] [] ∧ (q.2 = "taker" ∨ q.2 = "favoured") ∧ ∀ (P : Program) (w : World) (mg : Str → Option Value) (base : Heap) (k : Nat), FnOk P w K mg base (L2.CX P w) (k + 1) g fd ["self"] (getSp C.sale q.2)
/-- what the top has left -/
structure Stat (T : Tab) (C : Cl) (p : PrI) (P : Program) (K : PySem.W.Frag) (mg : Str → Option Value) : Prop where
  kok : KOk T C p.gl K mg
  fns : ∀ x f, (x, f) ∈ T.fns → ∃ a, mg x = some (.ref a) ∧ DefAt T p K f a
  cls : ∀ y m f, (y, m, f) ∈ T.meths → ∃ a, Cls K (C.at_ y) ∧ Meth K (C.at_ y) m a ∧ DefAt T p K f a
  flds : ∀ q ∈ T.flds, Cls K (C.at_ q.1) ∧ NoAttr K (C.at_ q.1) q.2
  mks : ∀ x y f, (x, y, f) ∈ T.mks → ∃ a, mg x = some (.ref (C.at_ y)) ∧ Mk K (C.at_ y) a ∧ DefAt T p K f a
  hsl : p.sl = T.sl
  hP : C.prog = P
  sal : T.sl = true → SaleAt T C p K
  eqs : ∀ f ∈ T.eqF, ∃ a, PySem.W.findIn K (.ref C.sale) "__eq__" = some (some (.ref a)) ∧ PySem.W.isFn K (.ref a) = true ∧ DefAt T p K f a
  prs : ∀ q ∈ T.props, GetAt K C q
  cprs : ∀ y m f, (y, m, f) ∈ T.cprops → ∃ a pp, Cls K (C.at_ y) ∧ PropOf K (C.at_ y) m pp a ∧ DefAt T p K f a
  xcs : ∀ x c, (x, c) ∈ T.clsN → ∃ ns, p.xc[c]? = some ns ∧ mg x = some (.ref (C.at_ c)) ∧ PySem.W.keepIn K (.ref (C.at_ c)) = true ∧ XcAll P K mg C c ns
  xrd : ∀ c, c < p.xc.length → XcRd K (C.at_ c) ∧ ∀ f ∈ T.xflds, PySem.W.findIn K (.ref (C.at_ c)) f = some none
  ask : ∀ x c, (x, c) ∈ T.ask → ∃ v, AskAt mg x v ∧ ∀ c2, c2 < p.xc.length → PySem.W.kitOne K (.ref (C.at_ c2)) v = some (p.sub c2 c) ∧ PySem.W.exmOne K (.ref (C.at_ c2)) v = some (p.sub c2 c)
section
variable {T : Tab} {C : Cl} {p : PrI} {P : Program} {w : World} {K : PySem.W.Frag} {mg : Str → Option Value} {base : Heap}
theorem takes_cx {N : List Str} {qual : Str} {scope : Scope} {f : Addr} {cd : Value} {A : Around} {outer : List Env} {s : Shared} {H : Hp} {E : XK} : Takes (cxOf (L2.CX P w) P w K mg base N qual scope f cd A outer s H E) (fun cls d _ H' => E cls d H') :=
  takes_of (X := cxOf (L2.CX P w) P w K mg base N qual scope f cd A outer s H E) (E₁ := fun e' s'' => L2.CX P w outer H s E e' s'') rfl rfl rfl rfl
theorem owns_cx {N : List Str} {qual : Str} {scope : Scope} {f : Addr} {cd : Value} {A : Around} {outer : List Env} {s : Shared} {H : Hp} {E : XK} :
    PassesOwn (model P w) (cxOf (L2.CX P w) P w K mg base N qual scope f cd A outer s H E).A (cxOf (L2.CX P w) P w K mg base N qual scope f cd A outer s H E).env (cxOf (L2.CX P w) P w K mg base N qual scope f cd A outer s H E).xe :=
  passes_of (X := cxOf (L2.CX P w) P w K mg base N qual scope f cd A outer s H E) (K := fun e s'' => L2.CX P w outer H s E e s'') (E₁ := fun e' s'' => L2.CX P w outer H s E e' s'') rfl
theorem start_rel {K : PySem.W.Frag} {ρ : List Addr} {H : Hp} {N : List Str} {ds : List D} {vs : List V} (r : Reps K C ρ H ds vs) : RelE K C ρ H (L2.start N vs) (ds.map some ++ List.replicate (N.length - ds.length) none) := by
  have hl := r.length
  refine ⟨by simp [L2.start, hl], fun i d e => ?_⟩
  have hi : i < ds.length := by
    by_cases hi : i < ds.length
    · exact hi
    · rw [List.getElem?_append_right (by simpa using hi), List.getElem?_replicate] at e
      split at e <;> cases e
  rw [List.getElem?_append_left (by simpa using hi), List.getElem?_map] at e
  cases hd : ds[i]? with
  | none => rw [hd] at e; cases e
  | some d' =>
    rw [hd] at e; cases e
    obtain ⟨v, hv, rv⟩ := r.get hd
    refine ⟨v, ?_, rv⟩
    unfold L2.start
    rw [List.getElem?_append_left (by simp; omega), List.getElem?_map, hv]; rfl
theorem fnAt_of {k f : Nat} {a : Addr} (h : DefAt T p K f a) (g : ∀ fd ps, DefAtF T p K f a fd ps → FnOk P w K mg base (L2.CX P w) (2 * k) a fd ps (spI K C (p.at_ k) f)) : FnAt P w K mg base C (p.at_ k) k a f := by
  obtain ⟨fd, ps, q⟩ := h
  have G := g fd ps q
  obtain ⟨d, x, qual, params, body, scope, N, h1, h2, h3, h4, h5, h6, h7⟩ := q
  exact ⟨fd, ps, h2.kp, .all h7, G⟩
theorem pr_sale (p : PrI) (k : Nat) : ∀ d f d2, (p.at_ k).pr d f = some d2 → ∃ a b, d = .sale a b := fun d f d2 e => by
  cases k with
  | zero => cases e
  | succ k =>
    change fldI d f = some d2 at e
    cases d with
    | sale a b => exact ⟨a, b, rfl⟩
    | _ => cases e
theorem prp_all (S : Stat T C p P K mg) (k : Nat) : ∀ q ∈ T.props, PrpAt P w K mg base C (p.at_ k) k q := fun q hq => by
  obtain ⟨pp, g, fd, hp, bd, hf, G⟩ := (S.prs q hq).ex
  refine ⟨pp, g, fd, hp, bd, ?_⟩
  cases k with
  | zero =>
    have no : ∀ vs H Q E, ¬ spP K C (p.at_ 0) q.2 vs H Q E := fun vs H Q E ⟨ρ, h, d, v, _, R, r, z⟩ => stuck_no z
    exact ⟨fun vs H Q E z => (no _ _ _ _ z).elim, fun A outer s H args us vs Q E _ _ _ _ z => (no _ _ _ _ z).elim⟩
  | succ k =>
    have G1 := G P w mg base (2 * k + 1)
    have cv : ∀ vs H Q E, spP K C (p.at_ (k + 1)) q.2 vs H Q E → getSp C.sale q.2 vs H Q E := fun vs H Q E ⟨ρ, h, d, v, e, R, r, z⟩ => by
      change Post K C (Rep K C) ρ H (ofO (fldI d q.2) h) Q _ at z
      cases d with
      | sale a b =>
        obtain ⟨x, dx, rfl, hH, _⟩ := rep_sale.mp r
        rcases hf with hf | hf
        · rw [hf] at z ⊢
          exact ⟨x, dx, _, .str a, e, hH, saleF_t, z.ok_ R (rep_str.mpr rfl)⟩
        · rw [hf] at z ⊢
          exact ⟨x, dx, _, .str b, e, hH, saleF_f, z.ok_ R (rep_str.mpr rfl)⟩
      | _ => exact stuck_no z
    show FnOk P w K mg base (L2.CX P w) (2 * k + 1 + 1) g fd ["self"] _
    exact ⟨fun vs H Q E z => G1.len _ _ _ _ (cv _ _ _ _ z), fun A outer s H args us vs Q E a b c d z => G1.run A outer s H args us vs Q E a b c d (cv _ _ _ _ z)⟩
/-- a body's context, at the level beneath -/
theorem ctx_of (S : Stat T C p P K mg) (hW : C.w = w) {k : Nat} (ihF : ∀ f a fd ps, DefAtF T p K f a fd ps → FnOk P w K mg base (L2.CX P w) (2 * k) a fd ps (spI K C (p.at_ k) f)) (ihS : T.sl = true → SalAt P w K mg base C (p.at_ k) k) (ihP : ∀ q ∈ T.props, PrpAt P w K mg base C (p.at_ k) k q) {N ps : List Str} {qual : Str} {scope : Scope} {a : Addr} {cdv : Value} {A : Around} {outer : List Env} {s : Shared} {H : Hp} {E : XK}
    (h3 : FnScope N ps scope) (hr : Room (2 * k + 1) (A.deeper (PyProof.Rows.envOfC qual scope s.heap.objs.size a cdv))) : CtxS T C (p.at_ k) k scope N (cxOf (L2.CX P w) P w K mg base N qual scope a cdv A outer s H E) := by
  have kk : KOk T C (p.at_ k).gl K mg := by rw [p.gl_at]; exact S.kok
  refine ⟨⟨rfl, rfl, hr, rfl, kk, fun x f hf => ?_, fun y m f hf => ?_, S.flds, fun x y f hf => ?_, (p.sl_at k).trans S.hsl, S.hP, hW, ihS, fun f hf => ?_, pr_sale p k, ihP, fun y m f hf => ?_⟩, h3.nd, fun _ _ => rfl, owns_cx, rfl, rfl, h3.kind, ?_, ?_, ?_⟩
  · obtain ⟨b, m1, m2⟩ := S.fns x f hf
    exact ⟨b, m1, fnAt_of m2 (ihF f b)⟩
  · obtain ⟨b, m0, m1, m2⟩ := S.cls y m f hf
    exact ⟨b, m0, m1, fnAt_of m2 (ihF f b)⟩
  · obtain ⟨b, m0, m1, m2⟩ := S.mks x y f hf
    exact ⟨b, m0, m1, fnAt_of m2 (ihF f b)⟩
  · obtain ⟨b, m0, m1, m2⟩ := S.eqs f hf
    exact ⟨b, m0, m1, fnAt_of m2 (ihF f b)⟩
  · obtain ⟨b, pp, m0, m1, m2⟩ := S.cprs y m f hf
    obtain ⟨fd, ps, q⟩ := m2
    have G := ihF f b fd ps q
    obtain ⟨d, x, qual, params, body, scope2, N2, h1, h2, h3', h4, h5, h6, h7⟩ := q
    exact ⟨pp, b, fd, ps, m0, m1, .all h7, G⟩
  · rw [p.xc_at]; exact S.xcs
  · rw [p.xc_at]; exact S.xrd
  · rw [p.xc_at, p.sub_at]; exact S.ask
theorem fn_both (S : Stat T C p P K mg) (hW : C.w = w) : ∀ k, (∀ f a fd ps, DefAtF T p K f a fd ps → FnOk P w K mg base (L2.CX P w) (2 * k) a fd ps (spI K C (p.at_ k) f)) ∧ (T.sl = true → SalAt P w K mg base C (p.at_ k) k) := by
  intro k
  induction k with
  | zero =>
    refine ⟨fun f a fd ps ⟨d, x, qual, params, body, scope, N, h1, h2, h3, h4, h5, h6, h7⟩ => ?_, ?_⟩
    · have no : ∀ vs H Q E, ¬ spI K C (p.at_ 0) f vs H Q E := fun vs H Q E ⟨ρ, h, ds, R, r, z⟩ => stuck_no z
      exact ⟨fun vs H Q E z => (no _ _ _ _ z).elim, fun A outer s H args us vs Q E _ _ _ _ z => (no _ _ _ _ z).elim⟩
    · intro hs0
      obtain ⟨f, fd, x, qual, params, body, scope, M, F, sc, st, bd⟩ := S.sal hs0
      have no : ∀ vs H Q E, ¬ spS K C (p.at_ 0) vs H Q E := fun vs H Q E ⟨ρ, h, H1, x, dx, d1, d2, v1, v2, Q0, _, _, _, _, _, _, _, _, _, z⟩ => stuck_no z
      exact ⟨f, fd, ["self", "gets", "ties"], M, .all bd, ⟨fun vs H Q E z => (no _ _ _ _ z).elim, fun A outer s H args us vs Q E _ _ _ _ z => (no _ _ _ _ z).elim⟩⟩
  | succ k ih =>
    obtain ⟨ihF, ihS⟩ := ih
    refine ⟨fun f a fd ps ⟨d, x, qual, params, body, scope, N, h1, h2, h3, h4, h5, h6, h7⟩ => ?_, ?_⟩
    · have un : ∀ ds h, (p.at_ (k + 1)).fn f ds h = if ds.length = d.np then runB (p.at_ k) d ds h else .stuck := fun ds h => by
        rw [PrI.at_]
        simp only [h1]
      show FnOk P w K mg base (L2.CX P w) (2 * k + 1 + 1) a fd ps _
      refine h2.ok h3 (fun vs H Q E ⟨ρ, h, ds, R, r, z⟩ => ?_) (fun cdv A outer s H vs Q E hr ⟨ρ, h, ds, R, r, z⟩ => ?_)
      · rw [un] at z
        split at z
        · rename_i hl
          rw [r.length, hl, h4]
        · exact stuck_no z
      · rw [un] at z
        split at z
        · rename_i hl
          have c := ctx_of (outer := outer) (H := H) (E := E) S hW ihF ihS (prp_all S k) h3 hr
          refine ⟨_, (okS_all 60 _ _ c takes_cx).2 _ _ (by rw [p.gl_at]; exact h6), ρ, h, _, R, start_rel r, ?_⟩
          unfold runB at z
          rw [h5]
          cases ho : evSs (p.at_ k) d.body (ds.map some ++ List.replicate (d.n - ds.length) none) h with
          | nx en h' => rw [ho] at z; exact fun ρ' H' σ' f R' RE' => z ρ' H' .non f R' (rep_non.mpr rfl)
          | rt d' h' => rw [ho] at z; exact z
          | bk en h' => rw [ho] at z; exact stuck_no z
          | ex x en h' => rw [ho] at z; exact fun ρ' H' σ' cls dd f R' RE' rx => z ρ' H' cls dd f R' rx
          | stuck => rw [ho] at z; exact stuck_no z
        · exact stuck_no z
    · intro hs0
      obtain ⟨f, fd, x, qual, params, body, scope, M, F, sc, st, bd⟩ := S.sal hs0
      refine ⟨f, fd, ["self", "gets", "ties"], M, .all bd, ?_⟩
      show FnOk P w K mg base (L2.CX P w) (2 * k + 1 + 1) f fd ["self", "gets", "ties"] _
      refine F.ok sc (fun vs H Q E ⟨ρ, h, H1, x, dx, d1, d2, v1, v2, Q0, ev, _⟩ => by rw [ev]; rfl) (fun cdv A outer s H vs Q E hr z => ?_)
      have c := ctx_of (outer := outer) (H := H) (E := E) S hW ihF ihS (prp_all S k) sc hr
      exact sale_body hs0 c takes_cx (by rw [p.gl_at]; exact st) (fun d1 d2 h => by rw [PrI.at_]) z
theorem fn_allF (S : Stat T C p P K mg) (hW : C.w = w) (k f : Nat) (a : Addr) (fd : FuncData) (ps : List Str) (h : DefAtF T p K f a fd ps) : FnOk P w K mg base (L2.CX P w) (2 * k) a fd ps (spI K C (p.at_ k) f) := (fn_both S hW k).1 f a fd ps h
end
end Mi

set_option Elab.async false
set_option linter.all false
set_option maxRecDepth 100000
set_option maxHeartbeats 2000000
/-! MiB: plain parameters are bound one by one. -/
namespace Mi
open PySem L2
theorem zip_look_some {us : List Value} : ∀ {ps : List Str} {n : Str}, us.length = ps.length → n ∈ ps → ((ps.zip us).lookup n).isSome = true := by
  intro ps
  induction ps generalizing us with
  | nil => intro n _ h; cases h
  | cons p ps ih =>
    intro n hl h
    cases us with
    | nil => cases hl
    | cons u us =>
      simp only [List.zip_cons_cons, List.lookup]
      cases hb : (n == p) with
      | true => rfl
      | false =>
        rcases List.mem_cons.mp h with rfl | h
        · simp at hb
        · exact ih (by simpa using hl) h
theorem filterMap_zip {us : List Value} : ∀ {ps : List Str} {l : List (Str × Value)}, ps.Nodup → us.length = ps.length → (∀ n u, (n, u) ∈ ps.zip us → l.lookup n = some u) → ps.filterMap (fun n => (l.lookup n).map (n, ·)) = ps.zip us := by
  intro ps
  induction ps generalizing us with
  | nil => intro l _ _ _; rfl
  | cons p ps ih =>
    intro l nd hl h
    cases us with
    | nil => cases hl
    | cons u us =>
      have e := h p u (List.mem_cons_self ..)
      rw [List.filterMap_cons, e]
      simp only [Option.map_some, List.zip_cons_cons]
      rw [ih (List.nodup_cons.mp nd).2 (by simpa using hl) fun n u hm => h n u (List.mem_cons_of_mem _ hm)]
theorem bind_plain {fd : FuncData} {ps : List Str} (h1 : fd.params.posonlyargs = []) (h2 : fd.params.args.map (·.arg) = ps) (h3 : fd.params.vararg = none) (h4 : fd.params.kwonlyargs = []) (h5 : fd.params.kwarg = none) (h6 : fd.defaults = .none) (nd : ps.Nodup) {us : List Value} (hl : us.length = ps.length) :
    bindArgs fd ⟨us, []⟩ = pure (ps.zip us) := by
  have e0 : ∀ (l : List Str), (∀ n ∈ l, n ∈ ps) → l.filter (fun n => ((ps.zip us).lookup n).isNone) = [] := fun l hm => by
    rw [List.filter_eq_nil_iff]
    intro n hn
    have := zip_look_some (us := us) hl (hm n hn)
    cases hz : (ps.zip us).lookup n with
    | none => rw [hz] at this; cases this
    | some _ => simp
  have e1 : ps.filterMap (fun n => ((ps.zip us).lookup n).map (n, ·)) = ps.zip us := filterMap_zip nd hl fun n u hm => look_nodup (by rw [zip_keys hl]; exact nd) hm
  have hs : (seqItems? (.none) : Sem (Option (Array Value))) = pure none := by first | rfl | (unfold seqItems?; rfl)
  unfold bindArgs
  simp only [h1, h2, h3, h4, h5, h6, hs, List.map_nil, List.nil_append, List.append_nil, pure_bind, List.forIn_nil, hl, Option.getD_none, List.length_nil, Nat.sub_zero, List.drop_zero, Nat.zero_sub, List.drop_nil, List.zip_nil_right]
  have e2 := e0 (ps.take ps.length) (fun n hn => List.mem_of_mem_take hn)
  simp [e1, e2]
  intro x hx hno
  obtain ⟨u, hu⟩ := Option.isSome_iff_exists.mp (zip_look_some (us := us) hl hx)
  exact absurd (PySem.mem_of_lookup hu) (hno u)
end Mi

set_option Elab.async false
set_option linter.all false
set_option maxRecDepth 100000
set_option maxHeartbeats 2000000
/-! MiH: what the top has left, asked of the heap's part K by one Bool. -/
namespace Mi
open PySem L2
structure DefT where
  at_ : Str × Option Str
  name : Str
  qual : Str
  params : Arguments
  body : List Stmt
  scope : Scope
  N : List Str
  ps : List Str
  i : DefI
  /-- a property's getter -/
  gt : Bool := false
def DefT.dd (t : DefT) : He.DefD := ⟨t.at_, t.name, t.qual, t.params, t.body, t.scope, [], []⟩
structure Cfg where
  T : Tab
  ds : List DefT
  gl : List (Str × D)
  /-- the classes by number: the exceptions first -/
  cn : List Str
  xc : List (List Str)
  sub : Nat → Nat → Bool
  sal : SalI
  /-- Sale.__init__ -/
  sd : DefT
def Cfg.p (c : Cfg) : PrI := { defs := c.ds.map (·.i), gl := c.gl, xc := c.xc, sub := c.sub, sl := c.T.sl, sal := c.sal }
/-- the defs that are found by name: a getter's place is filled by another -/
def DefT.d2 (s t : DefT) : He.DefD := if t.gt = true then s.dd else t.dd
def Cfg.dds (c : Cfg) : List He.DefD := c.sd.dd :: c.ds.map (DefT.d2 c.sd)
def Cfg.gets (c : Cfg) : List DefT := c.ds.filter (·.gt)
def clA (c : Cfg) (K : PySem.W.Frag) (n : Nat) : Addr := match c.cn[n]? with
  | some x => He.ga K x
  | none => 0
/-! ### what needs no heap -/
def parB (p : Arguments) (ps : List Str) : Bool := p.posonlyargs.isEmpty && decide (p.args.map (·.arg) = ps) && p.vararg.isNone && p.kwonlyargs.isEmpty && p.kwarg.isNone
def scB (N ps : List Str) (sc : Scope) : Bool := decide (sc.kind = .function) && !sc.isCoroutine && !sc.isGenerator && decide N.Nodup && decide (N.take ps.length = ps) && ps.all (fun x => decide (sc.names.lookup x = some .local) || decide (sc.names.lookup x = some .cell)) && sc.names.all (fun y => decide (y.2 ≠ .free))
theorem scB_ok {N ps : List Str} {sc : Scope} (h : scB N ps sc = true) : FnScope N ps sc := by
  simp only [scB, Bool.and_eq_true, decide_eq_true_eq, Bool.not_eq_true', List.all_eq_true, Bool.or_eq_true] at h
  obtain ⟨⟨⟨⟨⟨⟨h1, h2⟩, h3⟩, h4⟩, h5⟩, h6⟩, h7⟩ := h
  exact ⟨h1, h2, h3, h4, h5, h6, h7⟩
def defB (c : Cfg) (t : DefT) : Bool := scB t.N t.ps t.scope && decide (t.ps.length = t.i.np) && decide (t.N.length = t.i.n) && okSs c.T c.gl t.scope t.N 60 t.body t.i.body && parB t.params t.ps && decide t.ps.Nodup
/-- the sale's own __init__ -/
def salTB (c : Cfg) : Bool := scB ["self", "gets", "ties"] ["self", "gets", "ties"] c.sd.scope && parB c.sd.params ["self", "gets", "ties"] && visB c.sd.scope "self" && visB c.sd.scope "gets" && visB c.sd.scope "ties" && decide (c.sd.at_ = (("Sale" : Str), some ("__init__" : Str))) && (match c.sd.body with
  | [s1, s2, .Assign [.Attribute (.Name a1 _) b1 _] (.Name c1 _) _, .Assign [.Attribute (.Name a2 _) b2 _] (.Name c2 _) _] => decide (a1 = "self") && decide (b1 = "taker") && decide (c1 = "gets") && decide (a2 = "self") && decide (b2 = "favoured") && decide (c2 = "ties") &&
    okS c.T c.gl c.sd.scope ["self", "gets", "ties"] 60 s1 (salChk c.sal.f c.sal.g 1 c.sal.cg) && okS c.T c.gl c.sd.scope ["self", "gets", "ties"] 60 s2 (salChk c.sal.f c.sal.t 2 c.sal.ct)
  | _ => false)
theorem salTB_ok {c : Cfg} (h : salTB c = true) : FnScope ["self", "gets", "ties"] ["self", "gets", "ties"] c.sd.scope ∧ parB c.sd.params ["self", "gets", "ties"] = true ∧ c.sd.at_ = (("Sale" : Str), some ("__init__" : Str)) ∧ SalT c.T c.gl c.sd.scope c.sal c.sd.body := by
  simp only [salTB, Bool.and_eq_true, decide_eq_true_eq] at h
  obtain ⟨⟨⟨⟨⟨⟨h1, h2⟩, h3⟩, h4⟩, h5⟩, h6⟩, h7⟩ := h
  refine ⟨scB_ok h1, h2, h6, ?_, h3, h4, h5⟩
  split at h7
  · rename_i e
    simp only [Bool.and_eq_true, decide_eq_true_eq] at h7
    obtain ⟨⟨⟨⟨⟨⟨⟨rfl, rfl⟩, rfl⟩, rfl⟩, rfl⟩, rfl⟩, q7⟩, q8⟩ := h7
    exact ⟨_, _, _, _, _, _, _, _, _, _, e, q7, q8⟩
  · cases h7
theorem parB_bind {fd : FuncData} {ps : List Str} (h : parB fd.params ps = true) (h6 : fd.defaults = .none) (nd : ps.Nodup) {us : List Value} (hl : us.length = ps.length) : bindArgs fd ⟨us, []⟩ = pure (ps.zip us) := by
  simp only [parB, Bool.and_eq_true, decide_eq_true_eq] at h
  obtain ⟨⟨⟨⟨h1, h2⟩, h3⟩, h4⟩, h5⟩ := h
  exact bind_plain (List.isEmpty_iff.mp h1) h2 (Option.isNone_iff_eq_none.mp h3) (List.isEmpty_iff.mp h4) (Option.isNone_iff_eq_none.mp h5) h6 nd hl
theorem def_at {c : Cfg} {K : PySem.W.Frag} {f : Nat} {t : DefT} {a : Addr} {fd : FuncData} (ht : c.ds[f]? = some t) (hb : defB c t = true) (F : FunD K t.name t.qual t.params t.body t.scope [] [] a fd) : DefAtF c.T c.p K f a fd t.ps := by
  simp only [defB, Bool.and_eq_true, decide_eq_true_eq] at hb
  obtain ⟨⟨⟨⟨⟨h1, h2⟩, h3⟩, h4⟩, h5⟩, h6⟩ := hb
  refine ⟨t.i, _, _, _, _, _, t.N, ?_, F, scB_ok h1, h2, h3, h4, ?_⟩
  · show (c.ds.map (·.i))[f]? = _
    rw [List.getElem?_map, ht]; rfl
  · obtain ⟨oc, od, dV, kV, doc, pm, an, cdv, ct, osl, rfl, lk, hcd, hD, hK⟩ := F.ex
    rcases hD with ⟨_, rfl⟩ | ⟨e, _⟩
    · exact fun us hl => parB_bind h5 rfl h6 hl
    · exact absurd rfl e
/-! ### constants -/
mutual
def repB (K : PySem.W.Frag) : D → Value → Bool
  | .non, .none => true
  | .bl b, .bool c => b == c
  | .int i, .int j _ => decide (i = j)
  | .str s, .str z _ => decide (s = z)
  | .tup ds, .ref a => (match K.lookup a with
    | some ⟨.type c, _, .seq its n, _⟩ => decide (c = "tuple") && decide (its.size ≤ sizeLine) && repsB K ds its.toList
    | _ => false)
  | _, _ => false
def repsB (K : PySem.W.Frag) : List D → List Value → Bool
  | [], [] => true
  | d :: ds, u :: us => repB K d u && repsB K ds us
  | _, _ => false
end
mutual
theorem repB_ok {K : PySem.W.Frag} : ∀ {d : D} {u : Value}, repB K d u = true → ∃ v, RelV v u ∧ ∀ C ρ H, Rep K C ρ H d v
  | .non, u, h => by
    cases u <;> first | exact ⟨.non, rfl, fun C ρ H => rep_non.mpr rfl⟩ | (simp [repB] at h)
  | .bl b, u, h => by
    cases u <;> first | (rename_i c; exact ⟨.bl b, by rw [show b = c from by simpa [repB] using h]; rfl, fun C ρ H => rep_bl.mpr rfl⟩) | (simp [repB] at h)
  | .int i, u, h => by
    cases u <;> first | (rename_i c t; exact ⟨.int i, ⟨t, by rw [show i = c from by simpa [repB] using h]⟩, fun C ρ H => rep_int.mpr rfl⟩) | (simp [repB] at h)
  | .str i, u, h => by
    cases u <;> first | (rename_i c t; exact ⟨.str i, ⟨t, by rw [show i = c from by simpa [repB] using h]⟩, fun C ρ H => rep_str.mpr rfl⟩) | (simp [repB] at h)
  | .tup ds, u, h => by
    cases u with
    | ref a =>
      rw [repB] at h
      split at h
      · rename_i c d its n sl lk
        simp only [Bool.and_eq_true, decide_eq_true_eq] at h
        obtain ⟨⟨h1, h2⟩, h3⟩ := h
        obtain ⟨vs, r1, r2⟩ := repsB_ok h3
        refine ⟨.ref a, rfl, fun C ρ H => rep_tup.mpr ⟨a, vs, rfl, .inr (.inr ⟨_, its, n, lk, by rw [h1], rfl, h2, r1⟩), r2 C ρ H⟩⟩
      · cases h
    | _ => simp [repB] at h
  | .lsF _, u, h => by cases u <;> simp [repB] at h
  | .sale _ _, u, h => by cases u <;> simp [repB] at h
  | .obj _, u, h => by cases u <;> simp [repB] at h
  | .adr _, u, h => by cases u <;> simp [repB] at h
theorem repsB_ok {K : PySem.W.Frag} : ∀ {ds : List D} {us : List Value}, repsB K ds us = true → ∃ vs, Vals vs us ∧ ∀ C ρ H, Reps K C ρ H ds vs
  | [], [], _ => ⟨[], .nil, fun C ρ H => Reps.nil⟩
  | [], _ :: _, h => by simp [repsB] at h
  | _ :: _, [], h => by simp [repsB] at h
  | d :: ds, u :: us, h => by
    rw [repsB, Bool.and_eq_true] at h
    obtain ⟨v, r1, r2⟩ := repB_ok h.1
    obtain ⟨vs, s1, s2⟩ := repsB_ok h.2
    exact ⟨v :: vs, .cons r1 s1, fun C ρ H => Reps.cons (r2 C ρ H) (s2 C ρ H)⟩
end
def glB1 (K : PySem.W.Frag) (p : Str × D) : Bool := match PySem.W.nsIn K mainGlobals p.1 with
  | some (some u) => repB K p.2 u
  | _ => false
/-! ### exception classes -/
def oexB (K : PySem.W.Frag) (C : Addr) : Bool := (match K.lookup C with
  | some ⟨.type ct, dd, .cls cd, sl⟩ => (match cd.mro, sl.toList with
    | .ref c0 :: bm, [k0, k1, k2, k3, some (.builtin n), k5] => decide (ct = "type") && decide (c0 = C) && decide (n = "ValueError.__new__") && HandSPX.refsVE bm && cd.hasDict && !cd.hasDel
    | _, _ => false)
  | _ => false) && He.eqO (PySem.W.findIn K (.ref C) "__setattr__") (some (some (.builtin "object.__setattr__"))) && decide (PySem.W.subIn K (.ref C) (.type "BaseException") = some true) && decide (PySem.W.typeIn K (.ref C) = some (.type "type")) && PySem.W.keepIn K (.ref C)
theorem oexB_ok {K : PySem.W.Frag} {C : Addr} (h : oexB K C = true) : OexC K C := by
  simp only [oexB, Bool.and_eq_true, decide_eq_true_eq] at h
  obtain ⟨⟨⟨⟨h1, h2⟩, h3⟩, h4⟩, h5⟩ := h
  refine ⟨?_, He.eqO_ok h2, h3, h4, h5⟩
  split at h1
  · rename_i ct dd cd sl lk
    split at h1
    · rename_i c0 bm k0 k1 k2 k3 n k5 hm hs
      simp only [Bool.and_eq_true, decide_eq_true_eq, Bool.not_eq_true'] at h1
      obtain ⟨⟨⟨⟨⟨rfl, rfl⟩, rfl⟩, q4⟩, q5⟩, q6⟩ := h1
      obtain ⟨nm, bs, mro, ns, qn, hd, sn, sub, ab, col, del⟩ := cd
      dsimp only at hm q5 q6
      subst hm q5 q6
      have hsl : sl = #[k0, k1, k2, k3, some (.builtin "ValueError.__new__"), k5] := by
        obtain ⟨l⟩ := sl
        simp only at hs
        rw [hs]
      subst hsl
      exact ⟨nm, qn, ns, bs, bm, sn, sub, ab, col, dd, k0, k1, k2, k3, k5, lk, q4⟩
    · cases h1
  · cases h1
def xtextB (ns : List Str) : Expr → Bool
  | .Constant (.str _) _ _ => true
  | .JoinedStr [.Constant (.str a) _ _, .FormattedValue (.Name x _) c none _, .Constant (.str b) _ _] _ => decide (c = -1) && ns.contains x && !(x == ("__debug__" : Str)) && decide (a.length ≤ 1000) && decide (b.length ≤ 1000)
  | _ => false
theorem xtextB_ok {ns : List Str} {e : Expr} (h : xtextB ns e = true) : XText ns e := by
  unfold xtextB at h
  split at h
  · exact .cst
  · simp only [Bool.and_eq_true, decide_eq_true_eq, Bool.not_eq_true'] at h
    obtain ⟨⟨⟨⟨rfl, h2⟩, h3⟩, h4⟩, h5⟩ := h
    exact .fst (List.contains_iff_mem.mp h2) h3 h4 h5
  · cases h
def xstoresB : List Stmt → List Str → Bool
  | [], [] => true
  | .Assign [.Attribute (.Name s _) f _] (.Name g _) _ :: r, h :: hs => decide (s = "self") && decide (f = h) && decide (g = h) && !(h == ("__debug__" : Str)) && xstoresB r hs
  | _, _ => false
theorem xstoresB_ok {r : List Stmt} : ∀ {ns : List Str}, xstoresB r ns = true → XStores r ns := by
  induction r with
  | nil =>
    intro ns h
    cases ns with
    | nil => exact .nil
    | cons _ _ => simp [xstoresB] at h
  | cons s r ih =>
    intro ns h
    unfold xstoresB at h
    split at h
    · rename_i e1 e2
      first
        | (cases e1; done)
        | (cases e2; done)
    · rename_i e
      cases e
      simp only [Bool.and_eq_true, decide_eq_true_eq, Bool.not_eq_true'] at h
      obtain ⟨⟨⟨⟨rfl, rfl⟩, rfl⟩, h4⟩, h5⟩ := h
      exact .cons h4 (ih h5)
    · cases h
/-- an own exception class: its __init__ says super().__init__(text), then keeps its arguments -/
def xckB (P : Program) (K : PySem.W.Frag) (C : Addr) (ns : List Str) : Bool :=
  oexB K C && He.eqO (PySem.W.findIn K (.ref C) "__init__") (some (some (.ref (He.ma K C "__init__")))) && decide (PySem.W.typeIn K (.ref (He.ma K C "__init__")) = some (.type "function")) &&
  decide (PySem.W.mroIn K C (.ref C) = some true) && decide (PySem.W.subIn K (.ref C) (.type "ValueError") = some true) && He.eqO (PySem.W.ks_superIn K C C "__init__") (some (some (.builtin "ValueError.__init__"))) &&
  He.eqO (PySem.W.nsIn K PySem.cStatics "thirdparty.any") (some none) && He.eqO (PySem.W.nsIn K mainGlobals "super") (some none) && !(P.main.scope.names.lookup ("super" : Str)).isSome && decide (("self" : Str) :: ns).Nodup && decide (ns.length ≤ 900) && ns.all (fun f => He.eqO (PySem.W.findIn K (.ref C) f) (some none)) &&
  (match K.lookup (He.ma K C "__init__") with
  | some ⟨_, _, .func fd, _⟩ => (match fd.closure, fd.code, fd.body with
    | [(cl, cc)], .ref cda, .stmts (.Expr (.Call (.Attribute (.Call (.Name su _) [] [] _) ini p2) [te] [] p3) _ :: rest) =>
      decide (cl = "__class__") && decide (su = "super") && decide (ini = "__init__") && (Pos.endLine p2 == Pos.line p3) && decide (fd.globals = mainGlobals) && decide (fd.builtins = builtinsNs) && PySem.W.codeIn K (.ref cda) fd.qualname &&
      parB fd.params ("self" :: ns) && (match fd.defaults with
        | .none => true
        | _ => false) && xtextB ns te && xstoresB rest ns && decide (fd.scope.kind = .function) && !fd.scope.isCoroutine && !fd.scope.isGenerator && decide (fd.scope.names.lookup ("super" : Str) = some .globalImplicit) && decide (fd.scope.names.lookup ("__class__" : Str) = some .free) &&
      (("self" : Str) :: ns).all (fun x => decide (fd.scope.names.lookup x = some .local)) && fd.scope.names.all (fun x => decide (x.2 ≠ .cell)) &&
      (match K.lookup cda with
        | some ⟨_, _, .fields vs, _⟩ => (match (vs[2]? : Option Value) with
          | some (Value.str file _) => P.main.file == file
          | _ => false)
        | _ => false) && (match K.lookup cc with
        | some ⟨_, _, .cell (some (.ref D)), _⟩ => decide (D = C)
        | _ => false)
    | _, _, _ => false)
  | _ => false)
theorem xckB_ok {P : Program} {K : PySem.W.Frag} {mg : Str → Option Value} {C : Addr} {ns : List Str} {h : Heap} (X : K.In h) (G : h.Ns mainGlobals mg) (e : xckB P K C ns = true) : (∃ fI cc cda fd body scope te rest, XcK P K mg C ns fI cc cda fd body scope te rest) ∧ ns.length ≤ 900 := by
  simp only [xckB, Bool.and_eq_true, decide_eq_true_eq, Bool.not_eq_true', List.all_eq_true] at e
  obtain ⟨⟨⟨⟨⟨⟨⟨⟨⟨⟨⟨⟨a1, a2⟩, a3⟩, a4⟩, a5⟩, a6⟩, a7⟩, a8⟩, a9⟩, a10⟩, a11⟩, a12⟩, e⟩ := e
  refine ⟨?_, a11⟩
  split at e
  · rename_i oc od fd osl lk
    split at e
    · rename_i cl cc cda su pp1 pp2 ini p2 te p3 pp4 rest hcl hcd hbody
      simp only [Bool.and_eq_true, decide_eq_true_eq, Bool.not_eq_true', List.all_eq_true] at e
      obtain ⟨⟨⟨⟨⟨⟨⟨⟨⟨⟨⟨⟨⟨⟨⟨⟨⟨⟨⟨b1, b2⟩, b3⟩, b4⟩, b5⟩, b6⟩, b7⟩, b8⟩, b9⟩, b10⟩, b11⟩, b12⟩, b13⟩, b14⟩, b15⟩, b16⟩, b17⟩, b18⟩, b19⟩, b20⟩ := e
      subst b1 b2 b3
      have hdef : fd.defaults = .none := by
        split at b9
        · assumption
        · cases b9
      refine ⟨He.ma K C "__init__", cc, cda, fd, .Expr (.Call (.Attribute (.Call (.Name "super" pp1) [] [] pp2) "__init__" p2) [te] [] p3) pp4 :: rest, fd.scope, te, rest, ?_⟩
      exact {
        T := oexB_ok a1
        iC := He.eqO_ok a2
        tI := a3
        lk := by
          obtain ⟨nm, qn, prm, bdy, scp, glb, clo, dfs, kwd, dc, pm, an, cd, ct, blt⟩ := fd
          dsimp only at hcl hcd hbody b5 b6 b8 hdef
          subst hcl hcd hbody b5 b6
          refine ⟨nm, qn, prm, dfs, kwd, dc, pm, an, ct, oc, od, osl, rfl, lk, b7, ?_⟩
          simp only [parB, Bool.and_eq_true, decide_eq_true_eq] at b8
          obtain ⟨⟨⟨⟨h1, h2⟩, h3⟩, h4⟩, h5⟩ := b8
          rw [List.isEmpty_iff.mp h1, List.nil_append]
          cases hp : prm.args with
          | nil => rw [hp] at h2; cases h2
          | cons ar r => rw [hp] at h2; exact ⟨ar, rfl, (List.cons.inj h2).1⟩
        code := by
          split at b19
          · rename_i lk2
            split at b19
            · rename_i hv
              exact ⟨_, _, _, _, _, _, lk2, hv, b19⟩
            · cases b19
          · cases b19
        cell := by
          split at b20
          · rename_i lk2
            exact ⟨_, _, _, by rw [lk2, of_decide_eq_true b20]⟩
          · cases b20
        sub := a4
        subVE := a5
        sup := He.eqO_ok a6
        stat := He.eqO_ok a7
        mgS := PySem.W.mg_none_of X G (He.eqO_ok a8)
        top := a9
        bd := ⟨_, _, _, _, _, b4, rfl⟩
        text := xtextB_ok b10
        stores := xstoresB_ok b11
        nd := a10
        kind := b12
        co := b13
        gen := b14
        nS := b15
        nC := b16
        nP := b17
        nc := b18
        bind := fun us hl => parB_bind b8 hdef a10 (by simpa using hl)
        no := fun f hf => He.eqO_ok (a12 f hf) }
    · cases e
  · cases e
end Mi

set_option Elab.async false
set_option linter.all false
set_option maxRecDepth 100000
set_option maxHeartbeats 2000000
/-! MiI: what the top has left: the whole, and the Hook that asks it. -/
namespace Mi
open PySem L2
def clsB (K : PySem.W.Frag) (C : Addr) : Bool := PySem.W.plainGet K C Str.empty && PySem.W.hasDictIn K C && PySem.W.plainOver K C && He.eqO (PySem.W.findIn K (.ref C) "__setattr__") (some (some (.builtin "object.__setattr__")))
theorem clsB_ok {K : PySem.W.Frag} {C : Addr} (h : clsB K C = true) : Cls K C := by
  simp only [clsB, Bool.and_eq_true] at h
  obtain ⟨⟨⟨h1, h2⟩, h3⟩, h4⟩ := h
  exact ⟨h1, h2, h3, He.eqO_ok h4⟩
def noatB (K : PySem.W.Frag) (C : Addr) (f : Str) : Bool := He.eqO (PySem.W.findIn K (.ref C) f) (some none)
def salB (K : PySem.W.Frag) (C : Addr) : Bool := clsB K C && noatB K C "taker" && noatB K C "favoured" && He.eqO (PySem.W.findIn K (.ref C) "__class__") (some (some (.builtin "object.__class__"))) &&
  He.eqO (PySem.W.specialIn K (.builtin "object.__class__") "__get__") (some (some (.builtin "getset_descriptor.__get__"))) && decide (PySem.W.takesIn K (.builtin "object.__class__") = some true) && decide (PySem.W.mroIn K C (.type "object") = some true) &&
  ["str", "int", "bool", "tuple"].all (fun t => decide (PySem.W.kitOne K (.ref C) (.type t) = some false)) && decide (PySem.W.kitOne K (.ref C) (.ref C) = some true) && ["NoneType", "bool", "int", "str", "tuple", "list"].all (fun t => decide (PySem.W.kitOne K (.type t) (.ref C) = some false)) && ["NoneType", "bool", "int", "str", "tuple", "list"].all (fun t => PySem.W.notFirst K C (.type t))
theorem salB_ok {K : PySem.W.Frag} {C : Cl} (h : salB K C.sale = true) : SaleK K C := by
  simp only [salB, Bool.and_eq_true, decide_eq_true_eq, List.all_eq_true] at h
  obtain ⟨⟨⟨⟨⟨⟨⟨⟨⟨⟨h1, h2⟩, h3⟩, h4⟩, h5⟩, h6⟩, h7⟩, h8⟩, h9⟩, h10⟩, h11⟩ := h
  exact ⟨clsB_ok h1, He.eqO_ok h2, He.eqO_ok h3, He.eqO_ok h4, He.eqO_ok h5, h6, h7, h8, h9, h11, h10⟩
def xrdB (K : PySem.W.Frag) (D : Addr) : Bool := (PySem.W.clsIn K D).isSome && He.eqO (PySem.W.findIn K (.ref D) "__getattribute__") (some (some (.builtin "BaseException.__getattribute__"))) && He.eqO (PySem.W.findIn K (.ref D) "__getattr__") (some none) &&
  decide (PySem.W.subIn K (.ref D) (.type "BaseException") = some true) && PySem.W.hasDictIn K D && He.eqO (PySem.W.findIn K (.ref D) "__class__") (some (some (.builtin "object.__class__"))) &&
  He.eqO (PySem.W.specialIn K (.builtin "object.__class__") "__get__") (some (some (.builtin "getset_descriptor.__get__"))) && decide (PySem.W.takesIn K (.builtin "object.__class__") = some true) && decide (PySem.W.mroIn K D (.type "object") = some true)
theorem xrdB_ok {K : PySem.W.Frag} {D : Addr} (h : xrdB K D = true) : XcRd K D := by
  simp only [xrdB, Bool.and_eq_true, decide_eq_true_eq] at h
  obtain ⟨⟨⟨⟨⟨⟨⟨⟨h1, h2⟩, h3⟩, h4⟩, h5⟩, h6⟩, h7⟩, h8⟩, h9⟩ := h
  exact ⟨h1, He.eqO_ok h2, He.eqO_ok h3, h4, h5, He.eqO_ok h6, He.eqO_ok h7, h8, h9⟩
/-- a class that is asked for: its value -/
def askV (K : PySem.W.Frag) (x : Str) : Option Value := match PySem.W.nsIn K mainGlobals x with
  | some (some (.ref a)) => some (.ref a)
  | some none => (match bootBuiltins x with
    | some (.type n) => some (.type n)
    | _ => none)
  | _ => none
def askB (K : PySem.W.Frag) (c : Cfg) (q : Str × Nat) : Bool := match askV K q.1 with
  | some v => !(q.1 == ("__name__" : Str)) && (List.range c.xc.length).all fun n => decide (PySem.W.kitOne K (.ref (clA c K n)) v = some (c.sub n q.2)) && decide (PySem.W.exmOne K (.ref (clA c K n)) v = some (c.sub n q.2))
  | none => false
/-- a getter's def; a property of the sale's class -/
def getB (K : PySem.W.Frag) (g : Addr) (f : Str) : Bool := match K.lookup g with
  | some ⟨_, _, .func fd, _⟩ => PySem.W.codeIn K fd.code fd.qualname && scB ["self"] ["self"] fd.scope && parB fd.params ["self"] && (match fd.defaults with
    | .none => true
    | _ => false) && decide (fd.globals = mainGlobals) && fd.closure.isEmpty && decide (fd.builtins = builtinsNs) && (match fd.body with
    | .stmts [.Return (some (.Attribute (.Name x _) y _)) _] => decide (x = "self") && decide (y = f)
    | _ => false)
  | _ => false
def propB (K : PySem.W.Frag) (C : Addr) (q : Str × Str) : Bool := (decide (q.2 = "taker") || decide (q.2 = "favoured")) && (match PySem.W.findIn K (.ref C) q.1 with
  | some (some (.ref p)) => He.eqO (PySem.W.specialIn K (.ref p) "__get__") (some (some (.builtin "property.__get__"))) && decide (PySem.W.takesIn K (.ref p) = some true) && (match PySem.W.recIn K p "property" with
    | some (.ref g :: _) => getB K g q.2
    | _ => false)
  | _ => false)
theorem propB_ok {K : PySem.W.Frag} {C : Cl} {q : Str × Str} (S : SaleK K C) (h : propB K C.sale q = true) : GetAt K C q := by
  simp only [propB, Bool.and_eq_true, Bool.or_eq_true, decide_eq_true_eq] at h
  obtain ⟨hf, h⟩ := h
  split at h
  · rename_i p hp
    simp only [Bool.and_eq_true, decide_eq_true_eq] at h
    obtain ⟨⟨h1, h2⟩, h3⟩ := h
    split at h3
    · rename_i g rest hr
      unfold getB at h3
      split at h3
      · rename_i oc od fd osl lk
        obtain ⟨n1, n2, n3, n4, n5, n6, n7, n8, n9, n10, n11, n12, n13, n14, n15⟩ := fd
        simp only [Bool.and_eq_true, decide_eq_true_eq] at h3
        obtain ⟨⟨⟨⟨⟨⟨⟨k1, k2⟩, k3⟩, k4⟩, k5⟩, k6⟩, k7⟩, k8⟩ := h3
        split at k4
        · split at k8
          · rename_i x p1 y p2 p3
            simp only [Bool.and_eq_true, decide_eq_true_eq] at k8
            obtain ⟨rfl, rfl⟩ := k8
            obtain rfl := List.isEmpty_iff.mp k6
            subst k5 k7
            have bd : ∀ us : List Value, us.length = (["self"] : List Str).length → bindArgs (PySem.W.fnOf n1 n2 n3 [.Return (some (.Attribute (.Name "self" p1) q.2 p2)) p3] n5 .none n9 n10 n11 n12 n13 n14) ⟨us, []⟩ = pure ((["self"] : List Str).zip us) := fun us hl => parB_bind k3 rfl (by decide +kernel) hl
            refine ⟨p, g, _, ⟨hp, He.eqO_ok h1, h2, rest, hr⟩, .all bd, hf, fun P w mg base k => fn_getter (fa := g) lk k1 (scB_ok k2) rfl rfl S.cl ?_⟩
            rcases hf with hf | hf
            · rw [hf]; exact S.nT
            · rw [hf]; exact S.nF
          · cases k8
        · cases k4
      · cases h3
    · cases h3
  · cases h
/-! a property's getter -/
def getAd (K : PySem.W.Frag) (p : Str × Option Str) : Addr := match p.2 with
  | some m => (match PySem.W.recIn K (He.ma K (He.ga K p.1) m) "property" with
    | some (.ref g :: _) => g
    | _ => 0)
  | none => 0
def prp2B (K : PySem.W.Frag) (C : Addr) (m : Str) : Bool := He.eqO (PySem.W.findIn K (.ref C) m) (some (some (.ref (He.ma K C m)))) && He.eqO (PySem.W.specialIn K (.ref (He.ma K C m)) "__get__") (some (some (.builtin "property.__get__"))) && decide (PySem.W.takesIn K (.ref (He.ma K C m)) = some true) && (match PySem.W.recIn K (He.ma K C m) "property" with
  | some (.ref _ :: _) => true
  | _ => false)
theorem prp2_ok {K : PySem.W.Frag} {x m : Str} (h : prp2B K (He.ga K x) m = true) : PropOf K (He.ga K x) m (He.ma K (He.ga K x) m) (getAd K (x, some m)) := by
  simp only [prp2B, Bool.and_eq_true, decide_eq_true_eq] at h
  obtain ⟨⟨⟨h1, h2⟩, h3⟩, h4⟩ := h
  refine ⟨He.eqO_ok h1, He.eqO_ok h2, h3, ?_⟩
  show ∃ rest, PySem.W.recIn K (He.ma K (He.ga K x) m) "property" = some (.ref (match PySem.W.recIn K (He.ma K (He.ga K x) m) "property" with
    | some (.ref g :: _) => g
    | _ => 0) :: rest)
  split at h4
  · rename_i g rest e
    rw [e]
    exact ⟨rest, rfl⟩
  · cases h4
def wOf (fd : FuncData) : He.FnW := some ⟨fd.name, fd.qualname, fd.params, fd.body, fd.scope, fd.globals,
  fd.closure, fd.builtins⟩
def getW (K : PySem.W.Frag) (a : Addr) : He.FnW := match K.lookup a with
  | some o => (match o.data with
    | .func fd => wOf fd
    | _ => none)
  | none => none
def getOk (K : PySem.W.Frag) (t : DefT) : Bool := PySem.W.keepIn K (.ref (getAd K t.at_)) && (match K.lookup (getAd K t.at_) with
  | some o => (match o.data with
    | .func fd => PySem.W.codeIn K fd.code t.qual && He.dflB K fd.defaults [] && He.kwdB K fd.kwdefaults []
    | _ => false)
  | none => false)
theorem get_funD {K : PySem.W.Frag} {t : DefT} (e : getW K (getAd K t.at_) = t.dd.val) (c : getOk K t = true) : ∃ fd, FunD K t.name t.qual t.params t.body t.scope [] [] (getAd K t.at_) fd := by
  unfold getOk at c
  obtain ⟨kp, c⟩ := Bool.and_eq_true_iff.mp c
  unfold getW at e
  cases q : K.lookup (getAd K t.at_) with
  | none => rw [q] at e; cases e
  | some o =>
    rw [q] at c e
    obtain ⟨oc, od, dt, osl⟩ := o
    cases dt with
    | func fd =>
      simp only [Bool.and_eq_true] at c
      obtain ⟨⟨k1, k2⟩, k3⟩ := c
      obtain ⟨n1, n2, n3, n4, n5, n6, n7, n8, n9, n10, n11, n12, n13, n14, n15⟩ := fd
      have e := Option.some.inj e
      have a1 : n1 = t.name := congrArg (fun z => z.1) e
      have a2 : n2 = t.qual := congrArg (fun z => z.2.1) e
      have a3 : n3 = t.params := congrArg (fun z => z.2.2.1) e
      have a4 : n4 = .stmts t.body := congrArg (fun z => z.2.2.2.1) e
      have a5 : n5 = t.scope := congrArg (fun z => z.2.2.2.2.1) e
      have a6 : n6 = mainGlobals := congrArg (fun z => z.2.2.2.2.2.1) e
      have a7 : n7 = [] := congrArg (fun z => z.2.2.2.2.2.2.1) e
      have a8 : n15 = builtinsNs := congrArg (fun z => z.2.2.2.2.2.2.2) e
      subst a1 a2 a3 a4 a5 a6 a7 a8
      exact ⟨_, ⟨oc, od, n8, n9, n10, n11, n12, n13, n14, osl, rfl, q, k1, He.dflB_ok k2, He.kwdB_ok k3⟩, kp⟩
    | _ => cases c
def getWs (K : PySem.W.Frag) : List DefT → List He.FnW
  | [] => []
  | t :: r => getW K (getAd K t.at_) :: getWs K r
def getVs : List DefT → List He.FnW
  | [] => []
  | t :: r => t.dd.val :: getVs r
theorem gets_mem {K : PySem.W.Frag} : ∀ {l : List DefT}, getWs K l = getVs l → ∀ t ∈ l, getW K (getAd K t.at_) = t.dd.val
  | [], _, t, h => by cases h
  | a :: l, e, t, h => by
    rw [getWs, getVs] at e
    injection e with e1 e2
    rcases List.mem_cons.mp h with rfl | h
    · exact e1
    · exact gets_mem e2 t h
/-- what is said of the getters -/
def GetsOk (K : PySem.W.Frag) (c : Cfg) : Prop := getWs K c.gets = getVs c.gets ∧ c.gets.all (getOk K) = true
def nameAt (c : Cfg) (n : Nat) : Str := c.cn.getD n Str.empty
/-- the sales' class; an address apart where there is none -/
def salA (c : Cfg) (K : PySem.W.Frag) : Addr := if c.T.sl = true then He.ga K "Sale" else 1000000000
/-- all of it, in two parts -/
def allB1 (P : Program) (c : Cfg) (K : PySem.W.Frag) : Bool :=
  decide (salA c K ≠ 0) && c.cn.all (fun x => decide (He.ga K x ≠ salA c K)) &&
  c.gl.all (glB1 K) && frees.all (fun x => He.eqO (PySem.W.nsIn K mainGlobals x) (some none)) && (!c.T.sl || salB K (salA c K)) && (!c.T.sl || He.eqO (PySem.W.nsIn K mainGlobals "Sale") (some (some (.ref (salA c K))))) &&
  c.T.fns.all (fun q => He.eqO (PySem.W.nsIn K mainGlobals q.1) (some (some (.ref (He.ga K q.1)))) && (match c.ds[q.2]? with
    | some t => (decide (t.at_ = (q.1, none)) || decide (He.fAd K t.at_ = He.ga K q.1)) && !t.gt
    | none => false)) &&
  c.T.meths.all (fun q => decide (q.1 < c.cn.length) && clsB K (He.ga K (nameAt c q.1)) && (He.Fa.meth (nameAt c q.1) q.2.1).ok K && (match c.ds[q.2.2]? with
    | some t => decide (t.at_ = (nameAt c q.1, some q.2.1)) && !t.gt
    | none => false)) &&
  c.T.cprops.all (fun q => decide (q.1 < c.cn.length) && clsB K (He.ga K (nameAt c q.1)) && prp2B K (He.ga K (nameAt c q.1)) q.2.1 && (match c.ds[q.2.2]? with
    | some t => decide (t.at_ = (nameAt c q.1, some q.2.1)) && t.gt
    | none => false)) &&
  (c.T.sl || c.T.eqF.isEmpty) && c.T.eqF.all (fun f => He.eqO (PySem.W.findIn K (.ref (salA c K)) "__eq__") (some (some (.ref (He.fAd K ("Sale", some "__eq__"))))) && PySem.W.isFn K (.ref (He.fAd K ("Sale", some "__eq__"))) && (match c.ds[f]? with
    | some t => decide (t.at_ = (("Sale" : Str), some ("__eq__" : Str))) && !t.gt
    | none => false)) && (c.T.sl || c.T.props.isEmpty) && c.T.props.all (propB K (salA c K)) &&
  (!c.T.sl || (He.Fa.mkr "Sale").ok K) && c.T.mks.all (fun q => decide (c.cn[q.2.1]? = some q.1) && He.eqO (PySem.W.nsIn K mainGlobals q.1) (some (some (.ref (He.ga K q.1)))) && (He.Fa.mkr q.1).ok K && (match c.ds[q.2.2]? with
    | some t => decide (t.at_ = (q.1, some ("__init__" : Str))) && !t.gt
    | none => false))
def allB2 (P : Program) (c : Cfg) (K : PySem.W.Frag) : Bool :=
  c.T.flds.all (fun q => decide (q.1 < c.cn.length) && clsB K (He.ga K (nameAt c q.1)) && noatB K (He.ga K (nameAt c q.1)) q.2) &&
  c.T.clsN.all (fun q => decide (c.cn[q.2]? = some q.1) && He.eqO (PySem.W.nsIn K mainGlobals q.1) (some (some (.ref (He.ga K q.1)))) && PySem.W.keepIn K (.ref (He.ga K q.1)) && (match c.xc[q.2]? with
    | some ns => xckB P K (He.ga K q.1) ns
    | none => false)) &&
  decide (c.xc.length ≤ c.cn.length) && (List.range c.xc.length).all (fun n => xrdB K (He.ga K (nameAt c n)) && c.T.xflds.all (noatB K (He.ga K (nameAt c n)))) &&
  c.T.ask.all (askB K c)
def allB (P : Program) (c : Cfg) (K : PySem.W.Frag) : Bool := allB1 P c K && allB2 P c K
theorem clA_at {c : Cfg} {K : PySem.W.Frag} {n : Nat} (h : n < c.cn.length) : clA c K n = He.ga K (nameAt c n) := by
  unfold clA nameAt
  rw [List.getElem?_eq_getElem h, List.getD_eq_getElem?_getD, List.getElem?_eq_getElem h]; rfl
theorem xck_all {P : Program} {K : PySem.W.Frag} {mg : Str → Option Value} {C : Cl} {n : Nat} {ns : List Str} (h : (∃ fI cc cda fd body scope te rest, XcK P K mg (C.at_ n) ns fI cc cda fd body scope te rest) ∧ ns.length ≤ 900) : XcAll P K mg C n ns := by
  intro Y k e1 e2 e3 r
  obtain ⟨⟨fI, cc, cda, fd, body, scope, te, rest, x⟩, hz⟩ := h
  subst e1 e2 e3
  exact xc_call x r hz
theorem stat_of {P : Program} (w : World) {c : Cfg} {K : PySem.W.Frag} {mg : Str → Option Value} {h : Heap} (X : K.In h) (G : h.Ns mainGlobals mg) (e : allB P c K = true) (hd : He.SaysD [] c.dds K) (hg : GetsOk K c) (hsal : c.T.sl = true → salTB c = true) (hs : ∀ t ∈ c.ds, defB c t = true) :
    ∃ C : Cl, C.w = w ∧ Stat c.T C c.p P K mg ∧ (∀ t f, c.ds[f]? = some t → t.gt = false → ∃ fd, DefAtF c.T c.p K f (He.fAd K t.at_) fd t.ps) ∧ ∀ x f, (x, f) ∈ c.T.fns → mg x = some (.ref (He.ga K x)) := by
  simp only [allB, allB1, allB2, Bool.and_eq_true, Bool.or_eq_true, Bool.not_eq_true', decide_eq_true_eq, List.all_eq_true] at e
  obtain ⟨⟨⟨⟨⟨⟨⟨⟨⟨⟨⟨⟨⟨⟨⟨a1, a2⟩, a3⟩, a4⟩, a5⟩, a6⟩, a7⟩, a8⟩, a20⟩, a18⟩, a16⟩, a19⟩, a17⟩, a14⟩, a15⟩, ⟨⟨⟨⟨a9, a10⟩, a11⟩, a12⟩, a13⟩⟩ := e
  have ne : ∀ n, clA c K n ≠ salA c K := fun n => by
    by_cases hn : n < c.cn.length
    · rw [clA_at hn]
      unfold nameAt
      rw [List.getD_eq_getElem?_getD, List.getElem?_eq_getElem hn]
      exact a2 _ (List.getElem_mem hn)
    · unfold clA
      rw [List.getElem?_eq_none (by omega)]
      exact fun z => a1 z.symm
  have da : ∀ t f, c.ds[f]? = some t → t.gt = false → ∃ fd, DefAtF c.T c.p K f (He.fAd K t.at_) fd t.ps := fun t f ht hn => by
    have hd2 : He.SaysD [] (c.sd.dd :: c.ds.map (DefT.d2 c.sd)) K := hd
    obtain ⟨fd, F⟩ := He.SaysD.def_ hd2 (f + 1) (d := t.dd) (by rw [List.getElem?_cons_succ, List.getElem?_map, ht]; show some (DefT.d2 c.sd t) = _; unfold DefT.d2; rw [if_neg (by rw [hn]; exact Bool.false_ne_true)])
    exact ⟨fd, def_at ht (hs t (List.mem_of_getElem? ht)) F⟩
  have dg : ∀ t f, c.ds[f]? = some t → t.gt = true → ∃ fd, DefAtF c.T c.p K f (getAd K t.at_) fd t.ps := fun t f ht hn => by
    have mem : t ∈ c.gets := List.mem_filter.mpr ⟨List.mem_of_getElem? ht, hn⟩
    obtain ⟨fd, F⟩ := get_funD (gets_mem hg.1 t mem) (List.all_eq_true.mp hg.2 t mem)
    exact ⟨fd, def_at ht (hs t (List.mem_of_getElem? ht)) F⟩
  refine ⟨⟨P, w, salA c K, clA c K, ne⟩, rfl, ⟨⟨fun p hp => ?_, fun x hx => PySem.W.mg_none_of X G (He.eqO_ok (a4 x hx)), fun h0 => salB_ok (a5.resolve_left (by rw [h0]; simp)), fun h0 => PySem.W.mg_of X G (He.eqO_ok (a6.resolve_left (by rw [h0]; simp)))⟩, fun x f hf => ?_, fun y m f hf => ?_, fun q hq => ?_, fun x y f hf => ?_, rfl, rfl, ?_, fun f hf => ?_, fun q hq => propB_ok (salB_ok (a5.resolve_left (by rw [a19.resolve_right (fun z => by rw [List.isEmpty_iff.mp z] at hq; cases hq)]; simp))) (a17 q hq), fun y m f hf => ?_, fun x n hx => ?_, fun n hn => ?_, fun x n hx => ?_⟩, da, fun x f hf => PySem.W.mg_of X G (He.eqO_ok (a7 _ hf).1)⟩
  · have g := a3 p hp
    unfold glB1 at g
    split at g
    · rename_i u hu
      obtain ⟨v, r1, r2⟩ := repB_ok g
      exact ⟨v, u, PySem.W.mg_of X G hu, r1, fun ρ H => r2 _ ρ H⟩
    · cases g
  · obtain ⟨b1, b2⟩ := a7 _ hf
    refine ⟨_, PySem.W.mg_of X G (He.eqO_ok b1), ?_⟩
    split at b2
    · rename_i t ht
      obtain ⟨b2, b3⟩ := Bool.and_eq_true_iff.mp b2
      obtain ⟨fd, this⟩ := da t f ht (by simpa using b3)
      rcases Bool.or_eq_true_iff.mp b2 with b2 | b2
      · rw [of_decide_eq_true b2] at this
        exact ⟨fd, t.ps, this⟩
      · rw [of_decide_eq_true b2] at this
        exact ⟨fd, t.ps, this⟩
    · cases b2
  · obtain ⟨⟨⟨b0, b1⟩, b2⟩, b3⟩ := a8 _ hf
    have mk := He.meth_ok b2
    refine ⟨_, by show Cls K (clA c K y); rw [clA_at b0]; exact clsB_ok b1, by show Meth K (clA c K y) m _; rw [clA_at b0]; exact mk, ?_⟩
    split at b3
    · rename_i t ht
      obtain ⟨b3, b4⟩ := Bool.and_eq_true_iff.mp b3
      obtain ⟨fd, this⟩ := da t f ht (by simpa using b4)
      rw [of_decide_eq_true b3] at this
      exact ⟨fd, t.ps, this⟩
    · cases b3
  · obtain ⟨⟨b0, b1⟩, b2⟩ := a9 _ hq
    exact ⟨by show Cls K (clA c K q.1); rw [clA_at b0]; exact clsB_ok b1, by show NoAttr K (clA c K q.1) q.2; rw [clA_at b0]; exact He.eqO_ok b2⟩
  · obtain ⟨⟨⟨b0, b1⟩, b2⟩, b3⟩ := a15 _ hf
    have ec : clA c K y = He.ga K x := by unfold clA; rw [b0]
    refine ⟨_, by show mg x = some (.ref (clA c K y)); rw [ec]; exact PySem.W.mg_of X G (He.eqO_ok b1), by show Mk K (clA c K y) _; rw [ec]; exact He.mkr_ok b2, ?_⟩
    split at b3
    · rename_i t ht
      obtain ⟨b3, b4⟩ := Bool.and_eq_true_iff.mp b3
      obtain ⟨fd, this⟩ := da t f ht (by simpa using b4)
      rw [of_decide_eq_true b3] at this
      exact ⟨fd, t.ps, this⟩
    · cases b3
  · intro h0
    have eS : salA c K = He.ga K "Sale" := if_pos h0
    obtain ⟨s1, s2, s3, s4⟩ := salTB_ok (hsal h0)
    have hd2 : He.SaysD [] (c.sd.dd :: c.ds.map (DefT.d2 c.sd)) K := hd
    obtain ⟨fd, F⟩ := He.SaysD.def_ hd2 0 (d := c.sd.dd) rfl
    have F' : FunD K c.sd.name c.sd.qual c.sd.params c.sd.body c.sd.scope [] [] (He.fAd K c.sd.at_) fd := F
    rw [s3] at F'
    refine ⟨_, fd, _, _, _, _, _, (by show Mk K (salA c K) _; rw [eS]; exact He.mkr_ok (a14.resolve_left (by rw [h0]; simp))), F', s1, s4, ?_⟩
    obtain ⟨oc, od, dV, kV, doc, pm, an, cdv, ct, osl, rfl, lk, hcd, hD, hK⟩ := F'.ex
    rcases hD with ⟨_, rfl⟩ | ⟨e, _⟩
    · exact fun us hl => parB_bind s2 rfl (by decide +kernel) hl
    · exact absurd rfl e
  · obtain ⟨⟨b1, b2⟩, b3⟩ := a16 f hf
    refine ⟨_, He.eqO_ok b1, b2, ?_⟩
    split at b3
    · rename_i t ht
      obtain ⟨b3, b4⟩ := Bool.and_eq_true_iff.mp b3
      obtain ⟨fd, this⟩ := da t f ht (by simpa using b4)
      rw [of_decide_eq_true b3] at this
      exact ⟨fd, t.ps, this⟩
    · cases b3
  · obtain ⟨⟨⟨b0, b1⟩, b2⟩, b3⟩ := a20 _ hf
    have pr := prp2_ok b2
    refine ⟨_, _, by show Cls K (clA c K y); rw [clA_at b0]; exact clsB_ok b1, by show PropOf K (clA c K y) m _ _; rw [clA_at b0]; exact pr, ?_⟩
    split at b3
    · rename_i t ht
      obtain ⟨b3, b4⟩ := Bool.and_eq_true_iff.mp b3
      obtain ⟨fd, this⟩ := dg t f ht b4
      rw [of_decide_eq_true b3] at this
      exact ⟨fd, t.ps, this⟩
    · cases b3
  · obtain ⟨⟨⟨b1, b2⟩, b3⟩, b4⟩ := a10 _ hx
    have ec : clA c K n = He.ga K x := by unfold clA; rw [b1]
    split at b4
    · rename_i ns hns
      refine ⟨ns, hns, by show mg x = some (.ref (clA c K n)); rw [ec]; exact PySem.W.mg_of X G (He.eqO_ok b2), by show PySem.W.keepIn K (.ref (clA c K n)) = true; rw [ec]; exact b3, xck_all ?_⟩
      show (∃ fI cc cda fd body scope te rest, XcK P K mg (clA c K n) ns fI cc cda fd body scope te rest) ∧ _
      rw [ec]
      exact xckB_ok X G b4
    · cases b4
  · have hn' : n < c.xc.length := hn
    obtain ⟨b1, b2⟩ := a12 n (List.mem_range.mpr hn')
    have e0 : clA c K n = He.ga K (nameAt c n) := clA_at (Nat.lt_of_lt_of_le hn' a11)
    exact ⟨by show XcRd K (clA c K n); rw [e0]; exact xrdB_ok b1, fun f hf => by show PySem.W.findIn K (.ref (clA c K n)) f = _; rw [e0]; exact He.eqO_ok (b2 f hf)⟩
  · have b := a13 _ hx
    unfold askB at b
    split at b
    · rename_i v hv
      simp only [Bool.and_eq_true, Bool.not_eq_true', List.all_eq_true, decide_eq_true_eq] at b
      refine ⟨v, ?_, fun c2 h2 => b.2 c2 (List.mem_range.mpr h2)⟩
      unfold askV at hv
      split at hv
      · rename_i a ha
        cases hv
        exact .inl ⟨PySem.W.mg_of X G ha, a, rfl⟩
      · rename_i ha
        split at hv
        · rename_i nm hb
          cases hv
          exact .inr ⟨PySem.W.mg_none_of X G ha, ⟨nm, rfl⟩, hb, by simpa using b.1⟩
        · cases hv
      · cases hv
    · cases b
/-! ### the Hook -/
def fnWs (K : PySem.W.Frag) : List He.DefD → List He.FnW
  | [] => []
  | d :: r => He.fnW K d.at_ :: fnWs K r
def valsW : List He.DefD → List He.FnW
  | [] => []
  | d :: r => d.val :: valsW r
theorem fnWs_eq {K : PySem.W.Frag} : ∀ (l : List He.DefD), fnWs K l = l.map fun d => He.fnW K d.at_
  | [] => rfl
  | d :: r => by rw [fnWs, fnWs_eq r]; rfl
theorem valsW_eq : ∀ (l : List He.DefD), valsW l = l.map He.DefD.val
  | [] => rfl
  | d :: r => by rw [valsW, valsW_eq r]; rfl
/-- the addresses not seen yet; what is seen as a number's bits -/
def insN : List Addr → Nat → List Addr → Nat × List Addr
  | [], m, acc => (m, acc)
  | a :: r, m, acc => match Nat.testBit m a with
    | true => insN r m acc
    | false => insN r (m ||| (1 <<< a)) (a :: acc)
def levN (g : Addr → Option Obj) : List Addr → Nat → List Addr → Nat × List Addr
  | [], m, acc => (m, acc)
  | a :: r, m, acc => match g a with
    | some o => (match insN (He.refsD o) m acc with
      | (m2, acc2) => levN g r m2 acc2)
    | none => levN g r m acc
def bfsN (g : Addr → Option Obj) : Nat → Nat → List Addr → List Addr
  | 0, _, fr => fr
  | n + 1, m, fr => match levN g fr m [] with
    | (m2, fr2) => fr ++ bfsN g n m2 fr2
def asM (g : Addr → Option Obj) (n : Nat) : List Addr := PySem.cStatics :: bfsN g n (1 <<< mainGlobals) [mainGlobals]
def frM (g : Addr → Option Obj) (n : Nat) : PySem.W.Frag := He.frG g (asM g n)
abbrev AlM : Type := List He.FnW × Bool × Bool
def fnM (K : PySem.W.Frag) (c : Cfg) : List He.FnW := getWs K c.gets ++ fnWs K c.dds
def vaM (c : Cfg) : List He.FnW := getVs c.gets ++ valsW c.dds
def okM (K : PySem.W.Frag) (c : Cfg) : Bool := c.gets.all (getOk K) && c.dds.all fun d => d.ok K
def obsM (P : Program) (n : Nat) (c : Cfg) (g : Addr → Option Obj) : AlM := (fnM (frM g n) c, okM (frM g n) c, allB P c (frM g n))
def valM (c : Cfg) : AlM := (vaM c, true, true)
theorem getWs_len {K : PySem.W.Frag} : ∀ l : List DefT, (getWs K l).length = (getVs l).length
  | [] => rfl
  | _ :: l => by rw [getWs, getVs, List.length_cons, List.length_cons, getWs_len l]
theorem says_of {P : Program} {c : Cfg} {K : PySem.W.Frag} (e1 : fnM K c = vaM c) (e2 : okM K c = true) : He.SaysD [] c.dds K ∧ GetsOk K c := by
  obtain ⟨g1, g2⟩ := List.append_inj e1 (getWs_len _)
  obtain ⟨k1, k2⟩ := Bool.and_eq_true_iff.mp e2
  refine ⟨?_, g1, k1⟩
  unfold He.SaysD He.obsD He.valD
  rw [← fnWs_eq, ← valsW_eq, g2, k2]; rfl
def hookM (P : Program) (n : Nat) (c : Cfg) : PySem.W.Hook where
  α := AlM
  obs := fun s => obsM P n c s.heap.get?
  val := fun _ => valM c
  says := fun _ h => ∃ K : PySem.W.Frag, K.In h ∧ (He.SaysD [] c.dds K ∧ GetsOk K c) ∧ allB P c K = true
  of := fun _ _ e => ⟨_, He.frG_in, says_of (P := P) (congrArg (fun z : AlM => z.1) e) (congrArg (fun z : AlM => z.2.1) e), congrArg (fun z : AlM => z.2.2) e⟩
  keeps := fun _ _ _ ⟨K, hK, c⟩ k => ⟨K, PySem.W.Frag.In.keeps hK k, c⟩
theorem obsM_eq {P : Program} {n : Nat} {c : Cfg} {g : Addr → Option Obj} {s : Shared} (h : ∀ a, g a = s.heap.get? a) : obsM P n c g = (hookM P n c).obs s := by
  have e : g = s.heap.get? := funext h
  rw [e] <;> rfl
theorem maps {α β γ : Type} {o : Option α} {f : α → Bool × β} {g : α → γ} {h k : α → Bool} {a : Bool × β} {b : γ} {c d : Bool} (e1 : o.map f = some a) (e2 : o.map g = some b) (e3 : o.map h = some c) (e4 : o.map k = some d) :
    o.map (fun s => ((f s).1, (f s).2, g s, h s, k s)) = some (a.1, a.2, b, c, d) := by
  cases o with
  | none => cases e1
  | some s =>
    simp only [Option.map_some, Option.some.injEq] at *
    subst e1 e2 e3 e4; rfl
end Mi

set_option Elab.async false
set_option linter.all false
set_option maxRecDepth 100000
set_option maxHeartbeats 2000000
/-! MiL: a law holds when its text here says True of every script. -/
namespace Mi
open PySem L2
theorem fnOk0 {P : Program} {w : World} {K : PySem.W.Frag} {mg : Str → Option Value} {base : Heap} {k : Nat} {f : Addr} {fd : FuncData} {ps : List Str} {sp : Sp} (F : FnOk P w K mg base (L2.CX P w) k f fd ps sp) :
    FnOk P w K mg base L2.CX0 k f fd ps (fun vs H Q _ => sp vs H Q fun _ _ _ => False) := by
  refine ⟨fun vs H Q E h => F.len vs H Q _ h, fun A outer s H args us vs Q E hr e0 hb r h => codeAny_mono (F.run A outer s H args us vs Q _ hr e0 hb r h) fun r s' q => ?_⟩
  cases r with
  | ok fl => cases fl <;> exact q
  | error e =>
    obtain ⟨a, B, H', cls, d, _, _, _, _, _, _, _, z⟩ := q
    exact z.elim
theorem says_true {l : PySem.W.OpenLaw} {c : Cfg} {n k j fl : Nat} {x : Str} {t : DefT} {q : Program} {loose : List Str} {XP : (Str → Option Value) → Heap → Prop} {d : DefRec} (hn : l.most = some n) (hn2 : n ≤ sizeLine) (hdf : d.params.defaults = []) (hdn : d.name = "law") (hr : Room (2 * k) callerA) (hsal : c.T.sl = true → salTB c = true) (hs : ∀ t ∈ c.ds, defB c t = true)
    (hf : (("law" : Str), fl) ∈ c.T.fns) (hat : t.at_ = (("law" : Str), none)) (ht : c.ds[fl]? = some t) (hx : t.ps = [x]) (hgt : t.gt = false) (say : ∀ ns : List Int, ns.length ≤ n → ∃ h', (c.p.at_ k).fn fl [.lsF (ns.map .int)] [] = .ok (.bl true) h') :
    PySem.W.WalkO q loose XP (hookM l.prog j c).says l.row.toRowW d [] (fun f vs => PySem.call f vs) := by
  refine L2.walk_ofE (n := n) (k := 2 * k) (x := x) (CX := L2.CX0) hn hn2 hdf hr ?_ (fun _ _ _ _ z => z)
  intro w mg fa h ⟨K, X, ⟨hd, hgs⟩, e⟩ G hmg
  obtain ⟨C, hW, S, da, mgs⟩ := stat_of w X G e hd hgs hsal hs
  rw [hdn] at hmg
  obtain ⟨fd, D1⟩ := da t fl ht hgt
  obtain rfl : He.ga K "law" = fa := Value.ref.inj (Option.some.inj ((mgs _ _ hf).symm.trans hmg))
  rw [hat, hx] at D1
  refine ⟨K, fd, fun vs H Q _ => spI K C (c.p.at_ k) fl vs H Q fun _ _ _ => False, X, fun s u => ?_, fun H b ns hl _ hS => ?_, fun base KB GB => fnOk0 (fn_allF S hW k fl _ fd [x] D1)⟩
  · obtain ⟨_, _, _, _, _, _, _, _, _, _, _, _, _, hb⟩ := D1
    exact .of_eq (hb [u] rfl)
  · obtain ⟨h', hv⟩ := say ns hl
    refine ⟨[], [], [.lsF (ns.map .int)], RelH.nil, Reps.cons (rep_lsF.mpr ⟨b, ns.map V.int, rfl, ?_, ?_⟩) Reps.nil, ?_⟩
    · rcases hS with hS | hS
      · exact .inl ⟨hS, by simp⟩
      · exact .inr (.inr hS)
    · clear hv hl hS
      induction ns with
      | nil => exact Reps.nil
      | cons i r ih => exact Reps.cons (rep_int.mpr rfl) ih
    · show Post K C (Rep K C) [] H ((c.p.at_ k).fn fl [.lsF (ns.map .int)] []) _ _
      rw [hv]
      exact fun ρ' H' v f R r => rep_bl.mp r
end Mi

set_option Elab.async false
set_option linter.all false
set_option maxRecDepth 100000
set_option maxHeartbeats 2000000
/-! MiP: the laws' own draws: _law_pick gives a number below its bound. -/
namespace Mi
open PySem L2
def pickB : Ss := (.cons (.ite (.cmp .eq (.idx (.var 0) (.cst (.int 2))) (.cst (.int 0))) (.cons (.ite (.cmp .lt (.idx (.var 0) (.cst (.int 1))) (.bf .len (.cons (.idx (.var 0) (.cst (.int 0))) .nil))) (.cons (.asg 3 (.idx (.idx (.var 0) (.cst (.int 0))) (.idx (.var 0) (.cst (.int 1))))) (.cons (.setI (.var 0) (.cst (.int 1)) (.bin .add (.idx (.var 0) (.cst (.int 1))) (.cst (.int 1)))) (.cons (.ite (.cmp .ge (.var 3) (.bin .pow (.cst (.int 10)) (.cst (.int 18)))) (.cons (.setI (.var 0) (.cst (.int 2)) (.var 3)) .nil) (.cons (.setI (.var 0) (.cst (.int 3)) (.bin .mod (.bf .int (.cons (.bin .add (.bin .add (.bin .mul (.idx (.var 0) (.cst (.int 3))) (.cst (.int 48271))) (.bin .mul (.var 3) (.cst (.int 69621)))) (.cst (.int 11))) .nil)) (.cst (.int 2147483647)))) .nil)) .nil))) (.cons (.setI (.var 0) (.cst (.int 3)) (.bin .mod (.bf .int (.cons (.bin .add (.bin .mul (.idx (.var 0) (.cst (.int 3))) (.cst (.int 48271))) (.cst (.int 7))) .nil)) (.cst (.int 2147483647)))) .nil)) .nil) .nil) (.cons (.ite (.cmp .gt (.idx (.var 0) (.cst (.int 2))) (.cst (.int 0))) (.cons (.asg 2 (.bin .mod (.bf .int (.cons (.idx (.var 0) (.cst (.int 2))) .nil)) (.var 1))) (.cons (.setI (.var 0) (.cst (.int 2)) (.bin .fdiv (.idx (.var 0) (.cst (.int 2))) (.var 1))) (.cons (.ret (.var 2)) .nil))) .nil) (.cons (.ret (.bin .mod (.bin .mod (.bf .int (.cons (.bin .mul (.idx (.var 0) (.cst (.int 3))) (.cst (.int 16807))) .nil)) (.cst (.int 2147483629))) (.var 1))) .nil)))
def rowO (i : Nat) (p r s : Int) : O := .lst [.obj i, .int p, .int r, .int s]
/-- the heap with the row at j -/
def rowH (h : List O) (i j : Nat) (p r s : Int) : List O := h.set j (rowO i p r s)
section
variable {F : Fns} {h : List O} {i j : Nat} {ns : List Int} {p r s m : Int} {en : En}
theorem rowH_at (hj : j < h.length) : (rowH h i j p r s)[j]? = some (rowO i p r s) := by simp [rowH, hj]
theorem rowH_cells (ne : i ≠ j) (hi : h[i]? = some (.lst (ns.map .int))) : (rowH h i j p r s)[i]? = some (.lst (ns.map .int)) := by
  unfold rowH; rw [List.getElem?_set_ne (Ne.symm ne)]; exact hi
theorem rowH_set {p' r' s' : Int} : (rowH h i j p r s).set j (rowO i p' r' s') = rowH h i j p' r' s' := by
  unfold rowH; rw [List.set_set]
theorem ev_cst {d : D} : evE F (.cst d) en h = .ok d h := by rw [evE]
theorem ev_var {d : D} {k : Nat} (e : en[k]? = some (some d)) : evE F (.var k) en h = .ok d h := by rw [evE, e]
theorem ev_row (hj : j < h.length) (e : en[0]? = some (some (.obj j))) {c : Nat} {d : D} (hc : ([D.obj i, .int p, .int r, .int s] : List D)[c]? = some d) :
    evE F (.idx (.var 0) (.cst (.int c))) en (rowH h i j p r s) = .ok d (rowH h i j p r s) := by
  rw [evE, ev_var e]
  simp only [Out.bind_ok]
  rw [ev_cst]
  simp only [Out.bind_ok, idxI, itemsOf, rowH_at hj, rowO]
  rw [atI_nat hc]; rfl
theorem ev_setRow (hj : j < h.length) (e : en[0]? = some (some (.obj j))) {c : Nat} {d : D} {A : E} {p' r' s' : Int} (hA : evE F A en (rowH h i j p r s) = .ok d (rowH h i j p r s)) (hc : c < 4)
    (hs : ([D.obj i, .int p, .int r, .int s] : List D).set c d = [D.obj i, .int p', .int r', .int s']) : evS F (.setI (.var 0) (.cst (.int c)) A) en (rowH h i j p r s) = .nx en (rowH h i j p' r' s') := by
  rw [evS, hA]
  simp only [OS.of]
  rw [ev_var e]
  simp only
  rw [ev_cst]
  simp only [setII, rowH_at hj, rowO]
  have e1 : ixN ([D.obj i, .int p, .int r, .int s] : List D).length (c : Int) = some c := by
    unfold ixN
    rw [if_pos (by omega), if_pos (by simp; omega)]; simp
  rw [e1]
  simp only
  rw [hs]
  exact congrArg (OS.nx en) rowH_set
theorem fmod_range {a b : Int} (hb : 0 < b) : 0 ≤ a.fmod b ∧ a.fmod b < b := ⟨Int.fmod_nonneg_of_pos a hb, Int.fmod_lt_of_pos a hb⟩
/-! small steps -/
section
variable {F : Fns} {h h1 h2 h3 : List O} {en en1 : En} {A B : E} {x y d : D} {o : OS} {s : S} {P Q ss : Ss}
theorem ev_cmp {p : Cop} {c : Bool} (hA : evE F A en h = .ok x h1) (hB : evE F B en h1 = .ok y h2) (hc : cmpI p x y h2 = some c) : evE F (.cmp p A B) en h = .ok (.bl c) h2 := by
  rw [evE, hA]; simp only [Out.bind_ok]; rw [hB]; simp only [Out.bind_ok]; rw [hc]; rfl
theorem ev_bin {p : Bop} (hA : evE F A en h = .ok x h1) (hB : evE F B en h1 = .ok y h2) (hc : binI p x y h2 = .ok d h3) : evE F (.bin p A B) en h = .ok d h3 := by
  rw [evE, hA]; simp only [Out.bind_ok]; rw [hB]; simp only [Out.bind_ok]; exact hc
theorem ev_bf1 {b : Bf} (hA : evE F A en h = .ok x h1) (hc : bfI b [x] h1 = .ok d h2) : evE F (.bf b (.cons A .nil)) en h = .ok d h2 := by
  rw [evE, evEs, hA]; simp only [Out.bind_ok, evEs]; exact hc
theorem ev_idx (hA : evE F A en h = .ok x h1) (hB : evE F B en h1 = .ok y h2) (hc : idxI x y h2 = some d) : evE F (.idx A B) en h = .ok d h2 := by
  rw [evE, hA]; simp only [Out.bind_ok]; rw [hB]; simp only [Out.bind_ok]; rw [hc]; rfl
theorem evT_bl {b : Bool} (hA : evE F A en h = .ok (.bl b) h1) : evT F A en h = .ok b h1 := by
  unfold evT; rw [hA]; rfl
theorem ss_nil : evSs F .nil en h = .nx en h := by rw [evSs]
theorem ss_nx (hs : evS F s en h = .nx en1 h1) (hr : evSs F ss en1 h1 = o) : evSs F (.cons s ss) en h = o := by
  rw [evSs, hs]; exact hr
theorem ss_rt (hs : evS F s en h = .rt d h1) : evSs F (.cons s ss) en h = .rt d h1 := by
  rw [evSs, hs]; rfl
theorem s_ite {b : Bool} (hc : evT F A en h = .ok b h1) (hr : (if b = true then evSs F P en h1 else evSs F Q en h1) = o) : evS F (.ite A P Q) en h = o := by
  rw [evS, hc]; exact hr
theorem s_asg {i : Nat} (hA : evE F A en h = .ok d h1) : evS F (.asg i A) en h = .nx (en.set i (some d)) h1 := by
  rw [evS, hA]; rfl
theorem s_ret (hA : evE F A en h = .ok d h1) : evS F (.ret A) en h = .rt d h1 := by
  rw [evS, hA]; rfl
theorem eqI_int {a b : Int} : eqI (.int a) (.int b) h = some (decide (a = b)) := by
  unfold eqI toPD
  show (if true && true then some (PyData.eqv (.int a) (.int b)) else none) = _
  by_cases e : a = b
  · subst e; simp [PyData.eqv]
  · simp [PyData.eqv, e]
end
theorem mulOk_r {a b : Int} (hb : b.natAbs < 2 ^ 63) : mulOk a b = true := by
  unfold mulOk; simp [hb]
theorem ev_next {c : Int} {A : E} {a : Int} (hA : evE F A en h = .ok (.int a) h) : evE F (.bin .mod (.bf .int (.cons A .nil)) (.cst (.int c))) en h = if c ≠ 0 then .ok (.int (a.fmod c)) h else .stuck := by
  by_cases hc : c ≠ 0
  · rw [if_pos hc]; exact ev_bin (ev_bf1 hA rfl) ev_cst (by simp [binI, hc])
  · rw [if_neg hc, evE, ev_bf1 hA (show bfI .int [.int a] h = .ok (.int a) h from rfl)]; simp only [Out.bind_ok]; rw [ev_cst]; simp [binI, hc]
def pick1 : S := (.ite (.cmp .eq (.idx (.var 0) (.cst (.int 2))) (.cst (.int 0))) (.cons (.ite (.cmp .lt (.idx (.var 0) (.cst (.int 1))) (.bf .len (.cons (.idx (.var 0) (.cst (.int 0))) .nil))) (.cons (.asg 3 (.idx (.idx (.var 0) (.cst (.int 0))) (.idx (.var 0) (.cst (.int 1))))) (.cons (.setI (.var 0) (.cst (.int 1)) (.bin .add (.idx (.var 0) (.cst (.int 1))) (.cst (.int 1)))) (.cons (.ite (.cmp .ge (.var 3) (.bin .pow (.cst (.int 10)) (.cst (.int 18)))) (.cons (.setI (.var 0) (.cst (.int 2)) (.var 3)) .nil) (.cons (.setI (.var 0) (.cst (.int 3)) (.bin .mod (.bf .int (.cons (.bin .add (.bin .add (.bin .mul (.idx (.var 0) (.cst (.int 3))) (.cst (.int 48271))) (.bin .mul (.var 3) (.cst (.int 69621)))) (.cst (.int 11))) .nil)) (.cst (.int 2147483647)))) .nil)) .nil))) (.cons (.setI (.var 0) (.cst (.int 3)) (.bin .mod (.bf .int (.cons (.bin .add (.bin .mul (.idx (.var 0) (.cst (.int 3))) (.cst (.int 48271))) (.cst (.int 7))) .nil)) (.cst (.int 2147483647)))) .nil)) .nil) .nil)
theorem row2 (hj : j < h.length) (e : en[0]? = some (some (.obj j))) : evE F (.idx (.var 0) (.cst (.int 2))) en (rowH h i j p r s) = .ok (.int r) (rowH h i j p r s) := ev_row (c := 2) hj e rfl
theorem row1 (hj : j < h.length) (e : en[0]? = some (some (.obj j))) : evE F (.idx (.var 0) (.cst (.int 1))) en (rowH h i j p r s) = .ok (.int p) (rowH h i j p r s) := ev_row (c := 1) hj e rfl
theorem row3 (hj : j < h.length) (e : en[0]? = some (some (.obj j))) : evE F (.idx (.var 0) (.cst (.int 3))) en (rowH h i j p r s) = .ok (.int s) (rowH h i j p r s) := ev_row (c := 3) hj e rfl
theorem row0 (hj : j < h.length) (e : en[0]? = some (some (.obj j))) : evE F (.idx (.var 0) (.cst (.int 0))) en (rowH h i j p r s) = .ok (.obj i) (rowH h i j p r s) := ev_row (c := 0) hj e rfl
theorem len_row (ne : i ≠ j) (hi : h[i]? = some (.lst (ns.map .int))) : bfI .len [.obj i] (rowH h i j p r s) = .ok (.int ns.length) (rowH h i j p r s) := by
  simp only [bfI, itemsOf, rowH_cells ne hi, List.length_map]
theorem mod_ok {a b : Int} {hh : List O} (hb : b ≠ 0) : binI .mod (.int a) (.int b) hh = .ok (.int (a.fmod b)) hh := by
  simp only [binI]; rw [if_pos hb]
theorem pick1_ok (hj : j < h.length) (ne : i ≠ j) (hi : h[i]? = some (.lst (ns.map .int))) (hp : 0 ≤ p) (hr : 0 ≤ r) :
    ∃ p' r' s' u, 0 ≤ p' ∧ 0 ≤ r' ∧ evS F pick1 [some (.obj j), some (.int m), none, none] (rowH h i j p r s) = .nx [some (.obj j), some (.int m), none, u] (rowH h i j p' r' s') := by
  by_cases r0 : r = 0
  · by_cases hl : p < ns.length
    · -- a cell
      have hn : p.toNat < ns.length := by omega
      let cell := ns[p.toNat]
      have hat : atI (ns.map D.int) p = some (.int cell) := by
        have : ((ns.map D.int)[p.toNat]?) = some (.int cell) := by simp [cell, hn]
        have h2 := atI_nat this
        rw [Int.toNat_of_nonneg hp] at h2; exact h2
      by_cases hc : (10 : Int) ^ 18 ≤ cell
      · refine ⟨p + 1, cell, s, some (.int cell), by omega, by omega, ?_⟩
        refine s_ite (b := true) (evT_bl (ev_cmp (row2 hj rfl) ev_cst (by rw [cmpI, eqI_int, r0]; rfl))) ?_
        rw [if_pos rfl]
        refine ss_nx (s_ite (b := true) (evT_bl (ev_cmp (row1 hj rfl) (ev_bf1 (row0 hj rfl) (len_row ne hi)) (by simp [cmpI, hl]))) ?_) ss_nil
        rw [if_pos rfl]
        refine ss_nx (s_asg (ev_idx (row0 hj rfl) (row1 hj rfl) (by simp only [idxI, itemsOf, rowH_cells ne hi]; exact hat))) ?_
        refine ss_nx (ev_setRow (c := 1) hj rfl (ev_bin (row1 hj rfl) ev_cst rfl) (by decide) rfl) ?_
        refine ss_nx (s_ite (b := true) (evT_bl (ev_cmp (ev_var rfl) (ev_bin ev_cst ev_cst rfl) (by simp only [cmpI]; exact congrArg some (decide_eq_true hc)))) ?_) ss_nil
        rw [if_pos rfl]
        exact ss_nx (ev_setRow (c := 2) hj rfl (ev_var rfl) (by decide) rfl) ss_nil
      · refine ⟨p + 1, r, (s * 48271 + cell * 69621 + 11).fmod 2147483647, some (.int cell), by omega, hr, ?_⟩
        refine s_ite (b := true) (evT_bl (ev_cmp (row2 hj rfl) ev_cst (by rw [cmpI, eqI_int, r0]; rfl))) ?_
        rw [if_pos rfl]
        refine ss_nx (s_ite (b := true) (evT_bl (ev_cmp (row1 hj rfl) (ev_bf1 (row0 hj rfl) (len_row ne hi)) (by simp [cmpI, hl]))) ?_) ss_nil
        rw [if_pos rfl]
        refine ss_nx (s_asg (ev_idx (row0 hj rfl) (row1 hj rfl) (by simp only [idxI, itemsOf, rowH_cells ne hi]; exact hat))) ?_
        refine ss_nx (ev_setRow (c := 1) hj rfl (ev_bin (row1 hj rfl) ev_cst rfl) (by decide) rfl) ?_
        refine ss_nx (s_ite (b := false) (evT_bl (ev_cmp (ev_var rfl) (ev_bin ev_cst ev_cst rfl) (by simp only [cmpI]; exact congrArg some (decide_eq_false hc)))) ?_) ss_nil
        rw [if_neg Bool.false_ne_true]
        refine ss_nx (ev_setRow (c := 3) hj rfl (d := .int ((s * 48271 + cell * 69621 + 11).fmod 2147483647)) ?_ (by decide) rfl) ss_nil
        rw [ev_next (a := s * 48271 + cell * 69621 + 11) (ev_bin (ev_bin (ev_bin (row3 hj rfl) ev_cst (by simp only [binI]; rw [if_pos (mulOk_r (by decide))])) (ev_bin (ev_var rfl) ev_cst (by simp only [binI]; rw [if_pos (mulOk_r (by decide))])) rfl) ev_cst rfl)]
        rw [if_pos (by decide)]
    · refine ⟨p, r, (s * 48271 + 7).fmod 2147483647, none, hp, hr, ?_⟩
      refine s_ite (b := true) (evT_bl (ev_cmp (row2 hj rfl) ev_cst (by rw [cmpI, eqI_int, r0]; rfl))) ?_
      rw [if_pos rfl]
      refine ss_nx (s_ite (b := false) (evT_bl (ev_cmp (row1 hj rfl) (ev_bf1 (row0 hj rfl) (len_row ne hi)) (by simp [cmpI, hl]))) ?_) ss_nil
      rw [if_neg Bool.false_ne_true]
      refine ss_nx (ev_setRow (c := 3) hj rfl (d := .int ((s * 48271 + 7).fmod 2147483647)) ?_ (by decide) rfl) ss_nil
      rw [ev_next (a := s * 48271 + 7) (ev_bin (ev_bin (row3 hj rfl) ev_cst (by simp only [binI]; rw [if_pos (mulOk_r (by decide))])) ev_cst rfl)]
      rw [if_pos (by decide)]
  · refine ⟨p, r, s, none, hp, hr, ?_⟩
    refine s_ite (b := false) (evT_bl (ev_cmp (row2 hj rfl) ev_cst (by rw [cmpI, eqI_int]; simp [r0]))) ?_
    rw [if_neg Bool.false_ne_true]
    exact ss_nil
theorem ev_pick (hj : j < h.length) (ne : i ≠ j) (hi : h[i]? = some (.lst (ns.map .int))) (hp : 0 ≤ p) (hr : 0 ≤ r) (hm : 0 < m) (hm2 : m < 1000000) :
    ∃ v p' r' s', 0 ≤ v ∧ v < m ∧ 0 ≤ p' ∧ 0 ≤ r' ∧ evSs F pickB [some (.obj j), some (.int m), none, none] (rowH h i j p r s) = .rt (.int v) (rowH h i j p' r' s') := by
  obtain ⟨p1, r1, s1, u, hp1, hr1, e1⟩ := pick1_ok (F := F) (m := m) (s := s) hj ne hi hp hr
  have m0 : m ≠ 0 := by omega
  by_cases hr2 : 0 < r1
  · have g := fmod_range (a := r1) hm
    refine ⟨r1.fmod m, p1, r1 / m, s1, g.1, g.2, hp1, Int.ediv_nonneg hr1 (by omega), ?_⟩
    refine ss_nx e1 (ss_rt (s_ite (b := true) (evT_bl (ev_cmp (row2 hj rfl) ev_cst (by simp [cmpI, hr2]))) ?_))
    rw [if_pos rfl]
    refine ss_nx (s_asg (d := .int (r1.fmod m)) (ev_bin (ev_bf1 (row2 hj rfl) rfl) (ev_var rfl) (mod_ok m0))) ?_
    have hb : m.natAbs < 2 ^ 8000 := by
      have : m.natAbs < 1000000 := by omega
      exact Nat.lt_trans this (Nat.lt_of_lt_of_le (show 1000000 < 2 ^ 20 by decide) (Nat.pow_le_pow_right (by decide) (by decide)))
    refine ss_nx (ev_setRow (c := 2) hj rfl (d := .int (r1 / m)) (ev_bin (row2 hj rfl) (ev_var rfl) (if_pos ⟨hm, hb⟩)) (by decide) rfl) ?_
    exact ss_rt (s_ret (ev_var rfl))
  · have g := fmod_range (a := ((s1 * 16807).fmod 2147483629)) hm
    refine ⟨((s1 * 16807).fmod 2147483629).fmod m, p1, r1, s1, g.1, g.2, hp1, hr1, ?_⟩
    refine ss_nx e1 (ss_nx (en1 := [some (.obj j), some (.int m), none, u]) (h1 := rowH h i j p1 r1 s1) (s_ite (b := false) (evT_bl (ev_cmp (row2 hj rfl) ev_cst (by simp [cmpI, hr2]))) ?_) ?_)
    · rw [if_neg Bool.false_ne_true]; exact ss_nil
    · refine ss_rt (s_ret (ev_bin (x := .int ((s1 * 16807).fmod 2147483629)) ?_ (ev_var rfl) (mod_ok m0)))
      rw [ev_next (a := s1 * 16807) (ev_bin (row3 hj rfl) ev_cst (by simp only [binI]; rw [if_pos (mulOk_r (by decide))]))]
      rw [if_pos (by decide)]
end
section
variable {F : Fns} {h h1 h2 : List O} {en en1 : En} {A : E} {As : Es} {d : D} {ds : List D} {o : Out D}
theorem ev_call {f : Nat} (hA : evEs F As en h = .ok ds h1) (hf : F.fn f ds h1 = o) : evE F (.call f As) en h = o := by
  rw [evE, hA]; exact hf
theorem es_nil : evEs F .nil en h = .ok [] h := by rw [evEs]
theorem es_cons (hA : evE F A en h = .ok d h1) (hs : evEs F As en h1 = .ok ds h2) : evEs F (.cons A As) en h = .ok (d :: ds) h2 := by
  rw [evEs, hA]; simp only [Out.bind_ok]; rw [hs]; rfl
theorem s_par {is : List Nat} (hA : evEs F As en h = .ok ds h1) (hs : setAll en is ds = some en1) : evS F (.par is As) en h = .nx en1 h1 := by
  rw [evS, hA]; simp only [OS.of]; rw [hs]
/-- a def's answer by its block's end -/
def outOf (o : OS) : Out D := match o with
  | .nx _ h => .ok .non h
  | .rt d h => .ok d h
  | .ex x _ h => .exc x h
  | _ => .stuck
def isT (o : Out Mi.D) : Bool := match o with
  | .ok (.bl true) _ => true
  | _ => false
theorem isT_ok (h : isT o = true) : ∃ h', o = .ok (.bl true) h' := by
  unfold isT at h
  split at h
  · exact ⟨_, rfl⟩
  · cases h
theorem run_pick {d : DefI} (hd : d = ⟨2, 4, pickB⟩) {i j : Nat} {ns : List Int} {p r s m : Int} (hj : j < h.length) (ne : i ≠ j) (hi : h[i]? = some (.lst (ns.map .int))) (hp : 0 ≤ p) (hr : 0 ≤ r) (hm : 0 < m) (hm2 : m < 1000000) :
    ∃ v p' r' s', 0 ≤ v ∧ v < m ∧ 0 ≤ p' ∧ 0 ≤ r' ∧ runB F d [.obj j, .int m] (rowH h i j p r s) = .ok (.int v) (rowH h i j p' r' s') := by
  obtain ⟨v, p', r', s', v0, v1, hp', hr', e⟩ := ev_pick (F := F) (s := s) hj ne hi hp hr hm hm2
  refine ⟨v, p', r', s', v0, v1, hp', hr', ?_⟩
  subst hd
  unfold runB
  show outOf (evSs F pickB [some (.obj j), some (.int m), none, none] (rowH h i j p r s)) = _
  rw [e]; rfl
end
end Mi

set_option Elab.async false
set_option linter.all false
set_option maxRecDepth 100000
set_option maxHeartbeats 2000000
/-! MiW: walking a block by tactics. -/
namespace Mi
open PySem L2
def Ss.app : Ss → Ss → Ss
  | .nil, b => b
  | .cons s a, b => .cons s (a.app b)
theorem app_eq {F : Fns} : ∀ (A B : Ss) (en : En) (h : List O), evSs F (A.app B) en h = (evSs F A en h).seq (evSs F B)
  | .nil, B, en, h => by rw [Ss.app, evSs]; rfl
  | .cons s A, B, en, h => by
    rw [Ss.app, evSs, evSs]
    cases evS F s en h with
    | nx en1 h1 => exact app_eq A B en1 h1
    | rt _ _ => rfl
    | bk _ _ => rfl
    | ex _ _ _ => rfl
    | stuck => rfl
def pickS : Bool → Ss → Ss → Ss
  | true, a, _ => a
  | false, _, b => b
def pickE : Bool → E → E → E
  | true, a, _ => a
  | false, _, b => b
section
variable {F : Fns} {h h1 h2 h3 : List O} {en en1 : En} {A B Ce : E} {As : Es} {x y d : D} {ds : List D} {o : OS} {s : S} {P Q ss : Ss} {b : Bool} {oo : Out D}
theorem r_ite (hc : evE F Ce en h = .ok x h1) (ht : truI x h1 = some b) (hr : evSs F ((pickS b P Q).app ss) en h1 = o) : evSs F (.cons (.ite Ce P Q) ss) en h = o := by
  rw [app_eq] at hr
  rw [evSs, evS]
  unfold evT
  rw [hc]
  simp only [Out.bind_ok, ht, ofO, OS.of]
  cases b with
  | true => exact hr
  | false => exact hr
theorem r_ret (hA : evE F A en h = .ok d h1) : evSs F (.cons (.ret A) ss) en h = .rt d h1 := ss_rt (s_ret hA)
theorem r_asg {i : Nat} (hA : evE F A en h = .ok d h1) (hr : evSs F ss (en.set i (some d)) h1 = o) : evSs F (.cons (.asg i A) ss) en h = o := ss_nx (s_asg hA) hr
theorem r_par {is : List Nat} (hA : evEs F As en h = .ok ds h1) (hs : setAll en is ds = some en1) (hr : evSs F ss en1 h1 = o) : evSs F (.cons (.par is As) ss) en h = o := ss_nx (s_par hA hs) hr
theorem s_unp {is : List Nat} (hA : evE F A en h = .ok (.tup ds) h1) (hs : setAll en is ds = some en1) : evS F (.unp is A) en h = .nx en1 h1 := by
  rw [evS, hA]; simp only [OS.of]; rw [hs]
theorem r_unp {is : List Nat} (hA : evE F A en h = .ok (.tup ds) h1) (hs : setAll en is ds = some en1) (hr : evSs F ss en1 h1 = o) : evSs F (.cons (.unp is A) ss) en h = o := ss_nx (s_unp hA hs) hr
theorem r_expr (hA : evE F A en h = .ok d h1) (hr : evSs F ss en h1 = o) : evSs F (.cons (.expr A) ss) en h = o := by
  rw [evSs, evS, hA]; exact hr
theorem r_exprX {X : Xc} (hA : evE F A en h = .exc X h1) : evSs F (.cons (.expr A) ss) en h = .ex X en h1 := by
  rw [evSs, evS, hA]; rfl
theorem ss_exprX {X : Xc} (hA : evE F A en h = .exc X h1) : evSs F (.cons (.expr A) ss) en h = .ex X en h1 := r_exprX hA
theorem r_raise {c : Nat} {X : Xc} (hA : evEs F As en h = .ok ds h1) (hx : mkX F c ds = some X) : evSs F (.cons (.raise c As) ss) en h = .ex X en h1 := by
  rw [evSs, evS, hA]; simp only [OS.of]; rw [hx]; rfl
theorem r_aug {i : Nat} {p : Bop} (hx : en[i]? = some (some x)) (hA : evE F A en h = .ok y h1) (hz : augI p x y = some d) (hr : evSs F ss (en.set i (some d)) h1 = o) : evSs F (.cons (.aug i p A) ss) en h = o := by
  rw [evSs, evS, hx]; simp only; rw [hA]; simp only [OS.of]; rw [hz]; exact hr
theorem s_tryX {X : Xc} {P : Ss} {hs : Hs} (hb : evSs F P en h = .ex X en1 h1) (hh : evHs F hs X en1 h1 = o) : evS F (.try_ P hs) en h = o := by
  rw [evS, hb]; exact hh
theorem s_tryO {P : Ss} {hs : Hs} (hb : evSs F P en h = .nx en1 h1) : evS F (.try_ P hs) en h = .nx en1 h1 := by
  rw [evS, hb]
theorem tru_t (e : truI x h = some true) : truI x h = some true := e
theorem tru_f (e : truI x h = some false) : truI x h = some false := e
theorem len0 : bfI .len [.tup []] h = .ok (.int 0) h := rfl
theorem len1 {a : D} : bfI .len [.tup [a]] h = .ok (.int 1) h := rfl
theorem len2 {a b : D} : bfI .len [.tup [a, b]] h = .ok (.int 2) h := rfl
theorem len3 {a b c : D} : bfI .len [.tup [a, b, c]] h = .ok (.int 3) h := rfl
theorem r_retN : evSs F (.cons .retN ss) en h = .rt .non h := by rw [evSs, evS]; rfl
theorem e_and (hA : evE F A en h = .ok x h1) (ht : truI x h1 = some b) (hB : evE F (pickE b B (.cst x)) en h1 = oo) : evE F (.and A B) en h = oo := by
  rw [evE, hA]; simp only [Out.bind_ok, ht]
  cases b with
  | true => exact hB
  | false => rw [pickE, ev_cst] at hB; exact hB
theorem e_or (hA : evE F A en h = .ok x h1) (ht : truI x h1 = some b) (hB : evE F (pickE b (.cst x) B) en h1 = oo) : evE F (.or A B) en h = oo := by
  rw [evE, hA]; simp only [Out.bind_ok, ht]
  cases b with
  | true => rw [pickE, ev_cst] at hB; exact hB
  | false => exact hB
theorem e_not (hA : evE F A en h = .ok x h1) (ht : truI x h1 = some b) : evE F (.not A) en h = .ok (.bl (!b)) h1 := by
  rw [evE, hA]; simp only [Out.bind_ok, ht]
theorem e_ite (hc : evE F Ce en h = .ok x h1) (ht : truI x h1 = some b) (hr : evE F (pickE b A B) en h1 = oo) : evE F (.ite Ce A B) en h = oo := by
  rw [evE, hc]; simp only [Out.bind_ok, ht]
  cases b with
  | true => exact hr
  | false => exact hr
theorem e_tup (hA : evEs F As en h = .ok ds h1) (hl : ds.length ≤ LIM) : evE F (.tup As) en h = .ok (.tup ds) h1 := by
  rw [evE, hA]; simp only [Out.bind_ok]; rw [if_pos hl]
theorem e_lstF (hA : evEs F As en h = .ok ds h1) (hl : ds.length ≤ LIM) : evE F (.lstF As) en h = .ok (.lsF ds) h1 := by
  rw [evE, hA]; simp only [Out.bind_ok]; rw [if_pos hl]
theorem e_lst (hA : evEs F As en h = .ok ds h1) (hl : ds.length ≤ LIM) : evE F (.lst As) en h = .ok (.obj h1.length) (h1 ++ [.lst ds]) := by
  rw [evE, hA]; simp only [Out.bind_ok]; rw [if_pos hl]; rfl
theorem e_neg {i : Int} (hA : evE F A en h = .ok (.int i) h1) : evE F (.neg A) en h = .ok (.int (-i)) h1 := by rw [evE, hA]; rfl
theorem e_isN (hA : evE F A en h = .ok x h1) : evE F (.isN A) en h = .ok (.bl (isNon x)) h1 := by rw [evE, hA]; rfl
theorem e_notN (hA : evE F A en h = .ok x h1) : evE F (.notN A) en h = .ok (.bl (!isNon x)) h1 := by rw [evE, hA]; rfl
theorem e_fld {f : Str} (hA : evE F A en h = .ok x h1) (hf : fldI x f = some d) : evE F (.fld A f) en h = .ok d h1 := by rw [evE, hA]; simp only [Out.bind_ok, hf]; rfl
theorem e_fldC {c : Nat} {f : Str} (hA : evE F A en h = .ok x h1) (hf : fldCI c x f h1 = some d) : evE F (.fldC c A f) en h = .ok d h1 := by rw [evE, hA]; simp only [Out.bind_ok, hf]; rfl
theorem e_isi {t : Ty} (hA : evE F A en h = .ok x h1) (ht : tyS F.sl t x h1 = some b) : evE F (.isi A t) en h = .ok (.bl b) h1 := by rw [evE, hA]; simp only [Out.bind_ok, ht]; rfl
theorem e_bf {f : Bf} (hA : evEs F As en h = .ok ds h1) (hc : bfI f ds h1 = oo) : evE F (.bf f As) en h = oo := by rw [evE, hA]; exact hc
theorem e_chain {p q : Cop} (hA : evE F A en h = .ok x h1) (hB : evE F B en h1 = .ok y h2) (hc : cmpI p x y h2 = some b) (hC : evE F (pickE b (.cmp q (.cst y) Ce) (.cst (.bl false))) en h2 = oo) : evE F (.chain p q A B Ce) en h = oo := by
  rw [evE, hA]; simp only [Out.bind_ok]; rw [hB]; simp only [Out.bind_ok]; rw [hc]; simp only [ofO, Out.bind_ok]
  cases b with
  | true =>
    rw [pickE, evE, ev_cst] at hC; simp only [Out.bind_ok] at hC
    rw [← hC]
    cases evE F Ce en h2 with
    | ok z hz =>
      simp only [Out.bind_ok]
      cases cmpI q y z hz <;> rfl
    | exc _ _ => rfl
    | stuck => rfl
  | false => rw [pickE, ev_cst] at hC; exact hC
theorem e_callP {f : Nat} {ds2 : List D} (hA : evEs F As en h = .ok ds h1) (hz : frzAs h1 ds = some ds2) (hf : F.fn f ds2 [] = .ok d h2) (hp : pureD d = true) : evE F (.callP f As) en h = .ok d h1 := by
  rw [evE, hA]; simp only [Out.bind_ok, hz, hf, apart]; rw [if_pos hp]
theorem e_mkSale (hA : evE F A en h = .ok x h1) (hB : evE F B en h1 = .ok y h2) (hs : F.mkS x y h2 = oo) : evE F (.mkSale A B) en h = oo := by
  rw [evE, hA]; simp only [Out.bind_ok]; rw [hB]; exact hs
theorem e_star {l : List D} (hA : evE F A en h = .ok x h1) (hl : itemsOf x h1 = some l) (hs : evEs F As en h1 = .ok ds h2) : evEs F (.star A As) en h = .ok (l ++ ds) h2 := by
  rw [evEs, hA]; simp only [Out.bind_ok, hl]; rw [hs]; rfl
theorem cmp_lt_t {i j : Int} (e : i < j) : cmpI .lt (.int i) (.int j) h = some true := congrArg some (decide_eq_true e)
theorem cmp_lt_f {i j : Int} (e : ¬ i < j) : cmpI .lt (.int i) (.int j) h = some false := congrArg some (decide_eq_false e)
theorem cmp_le_t {i j : Int} (e : i ≤ j) : cmpI .le (.int i) (.int j) h = some true := congrArg some (decide_eq_true e)
theorem cmp_le_f {i j : Int} (e : ¬ i ≤ j) : cmpI .le (.int i) (.int j) h = some false := congrArg some (decide_eq_false e)
theorem cmp_gt_t {i j : Int} (e : j < i) : cmpI .gt (.int i) (.int j) h = some true := congrArg some (decide_eq_true e)
theorem cmp_gt_f {i j : Int} (e : ¬ j < i) : cmpI .gt (.int i) (.int j) h = some false := congrArg some (decide_eq_false e)
theorem cmp_ge_t {i j : Int} (e : j ≤ i) : cmpI .ge (.int i) (.int j) h = some true := congrArg some (decide_eq_true e)
theorem cmp_ge_f {i j : Int} (e : ¬ j ≤ i) : cmpI .ge (.int i) (.int j) h = some false := congrArg some (decide_eq_false e)
theorem cmp_eq_it {i j : Int} (e : i = j) : cmpI .eq (.int i) (.int j) h = some true := by rw [cmpI, eqI_int, decide_eq_true e]
theorem cmp_eq_if {i j : Int} (e : ¬ i = j) : cmpI .eq (.int i) (.int j) h = some false := by rw [cmpI, eqI_int, decide_eq_false e]
theorem cmp_ne_it {i j : Int} (e : ¬ i = j) : cmpI .ne (.int i) (.int j) h = some true := by rw [cmpI, eqI_int, decide_eq_false e]; rfl
theorem cmp_ne_if {i j : Int} (e : i = j) : cmpI .ne (.int i) (.int j) h = some false := by rw [cmpI, eqI_int, decide_eq_true e]; rfl
theorem eqI_str {a b : Str} (ha : SeqAt.shaped (.str a) = true) (hb : SeqAt.shaped (.str b) = true) : eqI (.str a) (.str b) h = some (decide (a = b)) := by
  unfold eqI toPD
  simp only [ha, hb]
  by_cases e : a = b
  · subst e; simp [PyData.eqv]
  · simp [PyData.eqv, e]
def sEq (a b : Str) : Bool := SeqAt.shaped (.str a) && SeqAt.shaped (.str b) && decide (a = b)
def sNe (a b : Str) : Bool := SeqAt.shaped (.str a) && SeqAt.shaped (.str b) && !decide (a = b)
theorem eq_of {a b : Str} (e : sEq a b = true) : eqI (.str a) (.str b) h = some true := by
  unfold sEq at e
  simp only [Bool.and_eq_true] at e
  rw [eqI_str e.1.1 e.1.2, e.2]
theorem ne_of {a b : Str} (e : sNe a b = true) : eqI (.str a) (.str b) h = some false := by
  unfold sNe at e
  simp only [Bool.and_eq_true, Bool.not_eq_true'] at e
  rw [eqI_str e.1.1 e.1.2, e.2]
theorem cmp_eq_st {a b : Str} (e : sEq a b = true) : cmpI .eq (.str a) (.str b) h = some true := by rw [cmpI, eq_of e]
theorem cmp_eq_sf {a b : Str} (e : sNe a b = true) : cmpI .eq (.str a) (.str b) h = some false := by rw [cmpI, ne_of e]
theorem cmp_ne_st {a b : Str} (e : sNe a b = true) : cmpI .ne (.str a) (.str b) h = some true := by rw [cmpI, ne_of e]; rfl
theorem cmp_ne_sf {a b : Str} (e : sEq a b = true) : cmpI .ne (.str a) (.str b) h = some false := by rw [cmpI, eq_of e]; rfl
theorem fld_tk {a b : Str} : fldI (.sale a b) "taker" = some (.str a) := by kernel_rfl
theorem fld_fv {a b : Str} : fldI (.sale a b) "favoured" = some (.str b) := by kernel_rfl
end
theorem lim2 {ds : List D} {n : Nat} (e : ds.length = n) (h : n ≤ 1000) : ds.length ≤ LIM := by rw [e]; exact Nat.le_trans h (by decide)
theorem lim3 {ds : List D} (h : Nat.ble ds.length 1000 = true) : ds.length ≤ LIM := Nat.le_trans (Nat.le_of_ble_eq_true h) (by decide)
/-! what is handed to a call apart -/
inductive FrzL (h : List O) : List D → List D → Prop where
  | nil : FrzL h [] []
  | cons {d d2 : D} {ds ds2 : List D} (a : frzA 4 h d = some d2) (b : FrzL h ds ds2) : FrzL h (d :: ds) (d2 :: ds2)
theorem FrzL.eq {h : List O} {ds ds2 : List D} (x : FrzL h ds ds2) : frzAs h ds = some ds2 := by
  induction x with
  | nil => rfl
  | cons a b ih =>
    unfold frzAs at ih ⊢
    rw [List.map_cons, a, optAll, ih]
section
variable {F : Fns} {h h1 h2 : List O} {en en2 acc : En} {A : E} {As : Es} {d : D} {ds ds2 : List D}
theorem e_callP2 {f : Nat} (hA : evEs F As en h = .ok ds h1) (hz : FrzL h1 ds ds2) (hf : F.fn f ds2 [] = .ok d h2) (hp : pureD d = true) : evE F (.callP f As) en h = .ok d h1 := e_callP hA hz.eq hf hp
theorem frzE_nil : frzE h en [] acc = some acc := rfl
theorem frzE_cons {i : Nat} {is : List Nat} {d d2 : D} {e2 : En} (he : en[i]? = some (some d)) (hz : frzA 4 h d = some d2) (hr : frzE h en is (acc.set i (some d2)) = some e2) : frzE h en (i :: is) acc = some e2 := by
  rw [frzE, he]; simp only; rw [hz]; exact hr
theorem e_ap {vs : List Nat} {n : Nat} (hl : en.length = n) (hz : frzE h en vs (List.replicate n none) = some en2) (hA : evE F A en2 [] = .ok d h1) (hp : pureD d = true) : evE F (.apE vs A) en h = .ok d h := by
  subst hl
  rw [evE, hz]; simp only; rw [hA]; simp only [bring, backD, backA]; rw [if_pos hp]
theorem e_apB {vs : List Nat} {n : Nat} {d2 : D} (hl : en.length = n) (hz : frzE h en vs (List.replicate n none) = some en2) (hA : evE F A en2 [] = .ok d h1) (hp : backD d h1 = some d2) : evE F (.apE vs A) en h = .ok d2 h := by
  subst hl
  rw [evE, hz]; simp only; rw [hA]; simp only [bring, hp]
theorem e_nnew0 : evE F .nnew en [] = .ok (.obj 0) [.dN []] := by rw [evE]; rfl
theorem frz_int {i : Int} : frzA 4 h (.int i) = some (.int i) := rfl
theorem frz_str {s : Str} : frzA 4 h (.str s) = some (.str s) := rfl
theorem frz_sale {a b : Str} : frzA 4 h (.sale a b) = some (.sale a b) := rfl
theorem frz_non : frzA 4 h .non = some .non := rfl
theorem frz_bl {b : Bool} : frzA 4 h (.bl b) = some (.bl b) := rfl
theorem frz_tup2 {a b : Int} : frzA 4 h (.tup [.int a, .int b]) = some (.tup [.int a, .int b]) := rfl
end
/-! loops, comprehensions over ranges -/
section
variable {F : Fns} {h h1 h2 : List O} {en : En} {A Cc Et : E}
theorem e_comp1 {vs : List Nat} {i : Nat} {kk : Bool} {x : Int} (hn : evE F A en h = .ok (.int x) h1) (hs : smallI x = true) (hr : cmpL (setT [i] (wipeE en vs)) (elI kk (evE F Cc) (evE F Et)) h1.length (rangeD 0 x) (h1 ++ [.lst []]) = .ok () h2) : evE F (.comp1 vs i kk A Cc Et) en h = .ok (.obj h1.length) h2 := by
  rw [evE, hn]; simp only [Out.bind_ok]
  rw [if_pos hs, hr]; rfl
theorem e_comp2 {vs : List Nat} {i : Nat} {kk : Bool} {x y : Int} {B : E} {h3 : List O} (hn : evE F A en h = .ok (.int x) h1) (hm : evE F B en h1 = .ok (.int y) h2) (hs : smallI x = true) (hs2 : smallI y = true) (hr : cmpL (setT [i] (wipeE en vs)) (elI kk (evE F Cc) (evE F Et)) h2.length (rangeD x y) (h2 ++ [.lst []]) = .ok () h3) : evE F (.comp2 vs [i] false kk A B Cc Et) en h = .ok (.obj h2.length) h3 := by
  rw [evE, hn]; simp only [Out.bind_ok]; rw [hm]; simp only [Out.bind_ok]
  rw [hs, hs2]
  simp only [Bool.and_self, if_true]
  rw [hr]; rfl
theorem s_range1 {tg : List Nat} {b : Ss} {x : Int} {o : OS} (hn : evE F A en h = .ok (.int x) h1) (hs : smallI x = true) (hf : forI (setT tg) (evSs F b) (rangeD 0 x) en h1 = o) : evS F (.for_ tg (.range1 A) b) en h = o := by
  rw [evS, hn]; simp only [OS.of]
  rw [if_pos hs]; exact hf
theorem s_range2 {tg : List Nat} {b : Ss} {x y : Int} {B : E} {o : OS} (hn : evE F A en h = .ok (.int x) h1) (hm : evE F B en h1 = .ok (.int y) h2) (hs : smallI x = true) (hs2 : smallI y = true) (hf : forI (setT tg) (evSs F b) (rangeD x y) en h2 = o) : evS F (.for_ tg (.range2 A B) b) en h = o := by
  rw [evS, hn]; simp only [OS.of]; rw [hm]; simp only
  rw [hs, hs2]
  simp only [Bool.and_self, if_true]
  exact hf
theorem small_nat {n : Nat} (hn : n ≤ 1000000) : smallI (n : Int) = true := by unfold smallI; rw [decide_eq_true (by omega), decide_eq_true (by omega)]; rfl
end
end Mi

set_option Elab.async false
set_option linter.all false
set_option maxRecDepth 100000
set_option maxHeartbeats 4000000
namespace Law_k11
open PySem L2 Mi
def top (i : Nat) : Stmt := PySem.Challenge.pw_pursesbid_k11_texts_refused.main.body.getD i (.Pass ⟨0, 0, 0, 0⟩)
def inCls : Stmt → List Stmt
  | .ClassDef (body := b) .. => b
  | _ => []
abbrev st0 : Stmt := top 6
abbrev b0 : Ss := (.cons (.ret (.and (.isi (.var 0) .str) (.cmp .inn (.var 0) (.var 1)))) .nil)
/-- is_one_of -/
def d0 : DefT := ⟨((PySem.Str.ofString "is_one_of"), none), (PySem.Str.ofString "is_one_of"), (PySem.Str.ofString "is_one_of"), defArgs st0, defBody st0, defScope st0, [(PySem.Str.ofString "value"), (PySem.Str.ofString "some")], [(PySem.Str.ofString "value"), (PySem.Str.ofString "some")], ⟨2, 2, b0⟩, false⟩
abbrev st1 : Stmt := top 20
abbrev b1 : Ss := (.cons (.expr (.meth 3 (PySem.Str.ofString "one_of") 16 (.var 0) (.cons (.lst (.cons (.cst (.str (PySem.Str.ofString "wish"))) .nil)) .nil))) (.cons (.asg 1 (.meth 3 (PySem.Str.ofString "one_of") 16 (.var 0) (.cons (.lst (.cons (.glob 1) (.cons (.glob 2) (.cons (.glob 0) (.cons (.glob 3) .nil))))) .nil))) (.cons (.ite (.cmp .inn (.var 1) (.tup (.cons (.glob 1) (.cons (.glob 2) .nil)))) (.cons (.ret (.tup (.cons (.var 1) .nil))) .nil) .nil) (.cons (.ite (.cmp .eq (.var 1) (.glob 0)) (.cons (.ret (.tup (.cons (.var 1) (.cons (.meth 3 (PySem.Str.ofString "number") 17 (.var 0) (.cons (.cst (.int 0)) (.cons (.glob 4) .nil))) .nil)))) .nil) .nil) (.cons (.asg 2 (.meth 3 (PySem.Str.ofString "number") 17 (.var 0) (.cons (.cst (.int 1)) (.cons (.glob 5) .nil)))) (.cons (.ret (.tup (.cons (.var 1) (.cons (.var 2) (.cons (.meth 3 (PySem.Str.ofString "number") 17 (.var 0) (.cons (.cst (.int 0)) (.cons (.bin .sub (.var 2) (.cst (.int 1))) .nil))) .nil))))) .nil))))))
/-- read_wish -/
def d1 : DefT := ⟨((PySem.Str.ofString "read_wish"), none), (PySem.Str.ofString "read_wish"), (PySem.Str.ofString "read_wish"), defArgs st1, defBody st1, defScope st1, [(PySem.Str.ofString "line"), (PySem.Str.ofString "word"), (PySem.Str.ofString "many")], [(PySem.Str.ofString "line")], ⟨1, 3, b1⟩, false⟩
abbrev st2 : Stmt := top 21
abbrev b2 : Ss := (.cons (.asg 1 (.bm .split (.var 0) (.cons (.cst (.str (PySem.Str.ofString "\n"))) .nil))) (.cons (.asg 2 (.mk 3 15 (.cons (.var 1) (.cons (.cst (.int 0)) .nil)))) (.cons (.expr (.meth 3 (PySem.Str.ofString "one_of") 16 (.var 2) (.cons (.lst (.cons (.cst (.str (PySem.Str.ofString "sale"))) .nil)) .nil))) (.cons (.par [4, 5] (.cons (.meth 3 (PySem.Str.ofString "one_of") 16 (.var 2) (.cons (.glob 6) .nil)) (.cons (.meth 3 (PySem.Str.ofString "one_of") 16 (.var 2) (.cons (.glob 7) .nil)) .nil))) (.cons (.expr (.meth 3 (PySem.Str.ofString "finish") 18 (.var 2) .nil)) (.cons (.asg 2 (.mk 3 15 (.cons (.var 1) (.cons (.cst (.int 1)) .nil)))) (.cons (.asg 3 (.call 1 (.cons (.var 2) .nil))) (.cons (.expr (.meth 3 (PySem.Str.ofString "finish") 18 (.var 2) .nil)) (.cons (.ite (.cmp .gt (.bf .len (.cons (.var 1) .nil)) (.glob 8)) (.cons (.raise 2 (.cons (.bin .add (.glob 8) (.cst (.int 1))) (.cons (.cst (.int 1)) .nil))) .nil) .nil) (.cons (.ret (.tup (.cons (.mkSale (.var 4) (.var 5)) (.cons (.var 3) .nil)))) .nil))))))))))
/-- read -/
def d2 : DefT := ⟨((PySem.Str.ofString "read"), none), (PySem.Str.ofString "read"), (PySem.Str.ofString "read"), defArgs st2, defBody st2, defScope st2, [(PySem.Str.ofString "text"), (PySem.Str.ofString "rows"), (PySem.Str.ofString "line"), (PySem.Str.ofString "wish"), (PySem.Str.ofString "gets"), (PySem.Str.ofString "ties")], [(PySem.Str.ofString "text")], ⟨1, 6, b2⟩, false⟩
abbrev st3 : Stmt := top 23
abbrev b3 : Ss := (.cons (.ret (.lst (.cons (.bf .list (.cons (.var 0) .nil)) (.cons (.cst (.int 0)) (.cons (.cst (.int 0)) (.cons (.cst (.int 7)) .nil)))))) .nil)
/-- _law_draws -/
def d3 : DefT := ⟨((PySem.Str.ofString "_law_draws"), none), (PySem.Str.ofString "_law_draws"), (PySem.Str.ofString "_law_draws"), defArgs st3, defBody st3, defScope st3, [(PySem.Str.ofString "_law_script")], [(PySem.Str.ofString "_law_script")], ⟨1, 1, b3⟩, false⟩
abbrev st4 : Stmt := top 24
abbrev b4 : Ss := (.cons (.ite (.cmp .eq (.idx (.var 0) (.cst (.int 2))) (.cst (.int 0))) (.cons (.ite (.cmp .lt (.idx (.var 0) (.cst (.int 1))) (.bf .len (.cons (.idx (.var 0) (.cst (.int 0))) .nil))) (.cons (.asg 3 (.idx (.idx (.var 0) (.cst (.int 0))) (.idx (.var 0) (.cst (.int 1))))) (.cons (.setI (.var 0) (.cst (.int 1)) (.bin .add (.idx (.var 0) (.cst (.int 1))) (.cst (.int 1)))) (.cons (.ite (.cmp .ge (.var 3) (.bin .pow (.cst (.int 10)) (.cst (.int 18)))) (.cons (.setI (.var 0) (.cst (.int 2)) (.var 3)) .nil) (.cons (.setI (.var 0) (.cst (.int 3)) (.bin .mod (.bf .int (.cons (.bin .add (.bin .add (.bin .mul (.idx (.var 0) (.cst (.int 3))) (.cst (.int 48271))) (.bin .mul (.var 3) (.cst (.int 69621)))) (.cst (.int 11))) .nil)) (.cst (.int 2147483647)))) .nil)) .nil))) (.cons (.setI (.var 0) (.cst (.int 3)) (.bin .mod (.bf .int (.cons (.bin .add (.bin .mul (.idx (.var 0) (.cst (.int 3))) (.cst (.int 48271))) (.cst (.int 7))) .nil)) (.cst (.int 2147483647)))) .nil)) .nil) .nil) (.cons (.ite (.cmp .gt (.idx (.var 0) (.cst (.int 2))) (.cst (.int 0))) (.cons (.asg 2 (.bin .mod (.bf .int (.cons (.idx (.var 0) (.cst (.int 2))) .nil)) (.var 1))) (.cons (.setI (.var 0) (.cst (.int 2)) (.bin .fdiv (.idx (.var 0) (.cst (.int 2))) (.var 1))) (.cons (.ret (.var 2)) .nil))) .nil) (.cons (.ret (.bin .mod (.bin .mod (.bf .int (.cons (.bin .mul (.idx (.var 0) (.cst (.int 3))) (.cst (.int 16807))) .nil)) (.cst (.int 2147483629))) (.var 1))) .nil)))
/-- _law_pick -/
def d4 : DefT := ⟨((PySem.Str.ofString "_law_pick"), none), (PySem.Str.ofString "_law_pick"), (PySem.Str.ofString "_law_pick"), defArgs st4, defBody st4, defScope st4, [(PySem.Str.ofString "_law_row"), (PySem.Str.ofString "_law_many"), (PySem.Str.ofString "_law_found"), (PySem.Str.ofString "_law_cell")], [(PySem.Str.ofString "_law_row"), (PySem.Str.ofString "_law_many")], ⟨2, 4, b4⟩, false⟩
abbrev st5 : Stmt := top 25
abbrev b5 : Ss := (.cons (.asg 2 (.call 4 (.cons (.var 0) (.cons (.cst (.int 5)) .nil)))) (.cons (.ite (.cmp .lt (.var 2) (.cst (.int 2))) (.cons (.ret (.tup (.cons (.cst (.str (PySem.Str.ofString "least"))) (.cons (.call 4 (.cons (.var 0) (.cons (.bin .add (.var 1) (.cst (.int 2))) .nil))) .nil)))) .nil) .nil) (.cons (.ite (.cmp .eq (.var 2) (.cst (.int 2))) (.cons (.ret (.tup (.cons (.cst (.str (PySem.Str.ofString "half"))) .nil))) .nil) .nil) (.cons (.ite (.cmp .eq (.var 2) (.cst (.int 3))) (.cons (.ret (.tup (.cons (.cst (.str (PySem.Str.ofString "last"))) .nil))) .nil) .nil) (.cons (.asg 3 (.bin .add (.cst (.int 1)) (.call 4 (.cons (.var 0) (.cons (.cst (.int 4)) .nil))))) (.cons (.ret (.tup (.cons (.cst (.str (PySem.Str.ofString "row"))) (.cons (.var 3) (.cons (.call 4 (.cons (.var 0) (.cons (.var 3) .nil))) .nil))))) .nil))))))
/-- _law_wish -/
def d5 : DefT := ⟨((PySem.Str.ofString "_law_wish"), none), (PySem.Str.ofString "_law_wish"), (PySem.Str.ofString "_law_wish"), defArgs st5, defBody st5, defScope st5, [(PySem.Str.ofString "_law_row"), (PySem.Str.ofString "_law_most"), (PySem.Str.ofString "_law_turn_of"), (PySem.Str.ofString "_law_many")], [(PySem.Str.ofString "_law_row"), (PySem.Str.ofString "_law_most")], ⟨2, 4, b5⟩, false⟩
abbrev st6 : Stmt := top 26
abbrev b6 : Ss := (.cons (.ret (.tup (.cons (.idx (.lstF (.cons (.cst (.str (PySem.Str.ofString "other"))) (.cons (.cst (.str (PySem.Str.ofString "house"))) .nil))) (.call 4 (.cons (.var 0) (.cons (.cst (.int 2)) .nil)))) (.cons (.idx (.lstF (.cons (.cst (.str (PySem.Str.ofString "one"))) (.cons (.cst (.str (PySem.Str.ofString "other"))) .nil))) (.call 4 (.cons (.var 0) (.cons (.cst (.int 2)) .nil)))) .nil)))) .nil)
/-- _law_words -/
def d6 : DefT := ⟨((PySem.Str.ofString "_law_words"), none), (PySem.Str.ofString "_law_words"), (PySem.Str.ofString "_law_words"), defArgs st6, defBody st6, defScope st6, [(PySem.Str.ofString "_law_row")], [(PySem.Str.ofString "_law_row")], ⟨1, 1, b6⟩, false⟩
abbrev st7 : Stmt := top 27
abbrev b7 : Ss := (.cons (.ret (.lst (.cons (.bin .add (.bin .add (.bin .add (.cst (.str (PySem.Str.ofString "sale "))) (.var 0)) (.cst (.str (PySem.Str.ofString " ")))) (.var 1)) (.cons (.apE [2] (.bm .join (.cst (.str (PySem.Str.ofString " "))) (.cons (.bin .add (.lst (.cons (.cst (.str (PySem.Str.ofString "wish"))) .nil)) (.comp [3] [3] false (.var 2) (.cst (.bl true)) (.bf .str (.cons (.var 3) .nil)))) .nil))) .nil)))) .nil)
/-- _law_lines -/
def d7 : DefT := ⟨((PySem.Str.ofString "_law_lines"), none), (PySem.Str.ofString "_law_lines"), (PySem.Str.ofString "_law_lines"), defArgs st7, defBody st7, defScope st7, [(PySem.Str.ofString "_law_gets"), (PySem.Str.ofString "_law_ties"), (PySem.Str.ofString "_law_wish_here"), (PySem.Str.ofString "_law_word")], [(PySem.Str.ofString "_law_gets"), (PySem.Str.ofString "_law_ties"), (PySem.Str.ofString "_law_wish_here")], ⟨3, 4, b7⟩, false⟩
abbrev st8 : Stmt := top 28
abbrev b8 : Ss := (.cons (.for_ [2] (.range1 (.bf .len (.cons (.var 1) .nil))) (.cons (.ite (.cmp .nin (.idx (.bin .add (.var 0) (.bin .mul (.lst (.cons (.cst (.str (PySem.Str.ofString ""))) .nil)) (.bin .add (.bf .len (.cons (.var 1) .nil)) (.cst (.int 1))))) (.var 2)) (.idx (.var 1) (.var 2))) (.cons (.ret (.bin .add (.var 2) (.cst (.int 1)))) .nil) .nil) .nil)) (.cons (.ret (.ite (.cmp .gt (.bf .len (.cons (.var 0) .nil)) (.bf .len (.cons (.var 1) .nil))) (.bin .add (.bf .len (.cons (.var 1) .nil)) (.cst (.int 1))) (.cst (.int 0)))) .nil))
/-- _law_first -/
def d8 : DefT := ⟨((PySem.Str.ofString "_law_first"), none), (PySem.Str.ofString "_law_first"), (PySem.Str.ofString "_law_first"), defArgs st8, defBody st8, defScope st8, [(PySem.Str.ofString "_law_words_here"), (PySem.Str.ofString "_law_lists_here"), (PySem.Str.ofString "_law_k")], [(PySem.Str.ofString "_law_words_here"), (PySem.Str.ofString "_law_lists_here")], ⟨2, 3, b8⟩, false⟩
abbrev st9 : Stmt := top 29
abbrev b9 : Ss := (.cons (.par [2, 3] (.cons (.idx (.bin .add (.var 0) (.lst (.cons (.cst (.str (PySem.Str.ofString ""))) (.cons (.cst (.str (PySem.Str.ofString ""))) .nil)))) (.cst (.int 1))) (.cons (.idx (.bin .add (.var 0) (.lst (.cons (.cst (.str (PySem.Str.ofString ""))) (.cons (.cst (.str (PySem.Str.ofString ""))) (.cons (.cst (.str (PySem.Str.ofString ""))) .nil))))) (.cst (.int 2))) .nil))) (.cons (.asg 1 (.lst (.cons (.lst (.cons (.cst (.str (PySem.Str.ofString "wish"))) .nil)) (.cons (.lst (.cons (.cst (.str (PySem.Str.ofString "least"))) (.cons (.cst (.str (PySem.Str.ofString "half"))) (.cons (.cst (.str (PySem.Str.ofString "last"))) (.cons (.cst (.str (PySem.Str.ofString "row"))) .nil))))) .nil)))) (.cons (.ite (.cmp .eq (.var 2) (.cst (.str (PySem.Str.ofString "least")))) (.cons (.expr (.bm .append (.var 1) (.cons (.comp1 [4] 4 false (.cst (.int 301)) (.cst (.bl true)) (.bf .str (.cons (.var 4) .nil))) .nil))) .nil) .nil) (.cons (.ite (.cmp .eq (.var 2) (.cst (.str (PySem.Str.ofString "row")))) (.cons (.expr (.bm .append (.var 1) (.cons (.lst (.cons (.cst (.str (PySem.Str.ofString "1"))) (.cons (.cst (.str (PySem.Str.ofString "2"))) (.cons (.cst (.str (PySem.Str.ofString "3"))) (.cons (.cst (.str (PySem.Str.ofString "4"))) .nil))))) .nil))) (.cons (.expr (.bm .append (.var 1) (.cons (.ite (.cmp .inn (.var 3) (.idx (.var 1) (.cst (.int 2)))) (.comp1 [4] 4 false (.bf .int (.cons (.var 3) .nil)) (.cst (.bl true)) (.bf .str (.cons (.var 4) .nil))) (.lst .nil)) .nil))) .nil)) .nil) (.cons (.ret (.var 1)) .nil)))))
/-- _law_lists -/
def d9 : DefT := ⟨((PySem.Str.ofString "_law_lists"), none), (PySem.Str.ofString "_law_lists"), (PySem.Str.ofString "_law_lists"), defArgs st9, defBody st9, defScope st9, [(PySem.Str.ofString "_law_words_here"), (PySem.Str.ofString "_law_found"), (PySem.Str.ofString "_law_word"), (PySem.Str.ofString "_law_many"), (PySem.Str.ofString "_law_k")], [(PySem.Str.ofString "_law_words_here")], ⟨1, 5, b9⟩, false⟩
abbrev st10 : Stmt := top 30
abbrev b10 : Ss := (.cons (.asg 1 (.comp [3] [3] false (.var 0) (.cst (.bl true)) (.comp [4] [4] true (.bm .split (.var 3) (.cons (.cst (.str (PySem.Str.ofString " "))) .nil)) (.cmp .ne (.var 4) (.cst (.str (PySem.Str.ofString "")))) (.var 4)))) (.cons (.asg 2 (.call 8 (.cons (.idx (.var 1) (.cst (.int 0))) (.cons (.lstF (.cons (.lstF (.cons (.cst (.str (PySem.Str.ofString "sale"))) .nil)) (.cons (.lstF (.cons (.cst (.str (PySem.Str.ofString "other"))) (.cons (.cst (.str (PySem.Str.ofString "house"))) .nil))) (.cons (.lstF (.cons (.cst (.str (PySem.Str.ofString "one"))) (.cons (.cst (.str (PySem.Str.ofString "other"))) .nil))) .nil)))) .nil)))) (.cons (.ite (.cmp .gt (.var 2) (.cst (.int 0))) (.cons (.ret (.lst (.cons (.cst (.str (PySem.Str.ofString "line"))) (.cons (.cst (.int 1)) (.cons (.var 2) .nil))))) .nil) .nil) (.cons (.ite (.cmp .lt (.bf .len (.cons (.var 1) .nil)) (.cst (.int 2))) (.cons (.ret (.lst (.cons (.cst (.str (PySem.Str.ofString "line"))) (.cons (.cst (.int 2)) (.cons (.cst (.int 1)) .nil))))) .nil) .nil) (.cons (.asg 2 (.call 8 (.cons (.idx (.var 1) (.cst (.int 1))) (.cons (.call 9 (.cons (.idx (.var 1) (.cst (.int 1))) .nil)) .nil)))) (.cons (.ite (.cmp .gt (.var 2) (.cst (.int 0))) (.cons (.ret (.lst (.cons (.cst (.str (PySem.Str.ofString "line"))) (.cons (.cst (.int 2)) (.cons (.var 2) .nil))))) .nil) .nil) (.cons (.ite (.cmp .gt (.bf .len (.cons (.var 1) .nil)) (.cst (.int 2))) (.cons (.ret (.lst (.cons (.cst (.str (PySem.Str.ofString "line"))) (.cons (.cst (.int 3)) (.cons (.cst (.int 1)) .nil))))) .nil) .nil) (.cons (.ret (.tup (.cons (.mkSale (.idx (.idx (.var 1) (.cst (.int 0))) (.cst (.int 1))) (.idx (.idx (.var 1) (.cst (.int 0))) (.cst (.int 2)))) (.cons (.bin .add (.tup (.cons (.idx (.idx (.var 1) (.cst (.int 1))) (.cst (.int 1))) .nil)) (.bf .tuple (.cons (.comp [4] [4] false (.slT (.idx (.var 1) (.cst (.int 1))) (.cst (.int 2))) (.cst (.bl true)) (.bf .int (.cons (.var 4) .nil))) .nil))) .nil)))) .nil))))))))
/-- _law_due -/
def d10 : DefT := ⟨((PySem.Str.ofString "_law_due"), none), (PySem.Str.ofString "_law_due"), (PySem.Str.ofString "_law_due"), defArgs st10, defBody st10, defScope st10, [(PySem.Str.ofString "_law_lines_here"), (PySem.Str.ofString "_law_rows"), (PySem.Str.ofString "_law_fault"), (PySem.Str.ofString "_law_line"), (PySem.Str.ofString "_law_word")], [(PySem.Str.ofString "_law_lines_here")], ⟨1, 5, b10⟩, false⟩
abbrev st11 : Stmt := top 31
abbrev b11 : Ss := (.cons (.asg 1 (.cst .non)) (.cons (.try_ (.cons (.asg 1 (.call 2 (.cons (.var 0) .nil))) .nil) (.cons 2 (some 2) (.cons (.asg 1 (.ite (.xisi 3) (.lst (.cons (.cst (.str (PySem.Str.ofString "line"))) (.cons (.xfld (PySem.Str.ofString "line")) (.cons (.xfld (PySem.Str.ofString "word")) .nil)))) (.cst (.str (PySem.Str.ofString "another"))))) .nil) .nil)) (.cons (.ret (.var 1)) .nil)))
/-- _law_told -/
def d11 : DefT := ⟨((PySem.Str.ofString "_law_told"), none), (PySem.Str.ofString "_law_told"), (PySem.Str.ofString "_law_told"), defArgs st11, defBody st11, defScope st11, [(PySem.Str.ofString "_law_text"), (PySem.Str.ofString "_law_told_here"), (PySem.Str.ofString "e")], [(PySem.Str.ofString "_law_text")], ⟨1, 3, b11⟩, false⟩
abbrev st12 : Stmt := top 32
abbrev b12 : Ss := (.cons (.asg 2 (.bm .split (.var 1) (.cons (.cst (.str (PySem.Str.ofString " "))) .nil))) (.cons (.par [4, 5] (.cons (.call 4 (.cons (.var 0) (.cons (.bf .len (.cons (.var 2) .nil)) .nil))) (.cons (.call 4 (.cons (.var 0) (.cons (.cst (.int 5)) .nil))) .nil))) (.cons (.asg 3 (.lstF (.cons (.cst (.str (PySem.Str.ofString ""))) (.cons (.cst (.str (PySem.Str.ofString "0"))) (.cons (.cst (.str (PySem.Str.ofString "1"))) (.cons (.cst (.str (PySem.Str.ofString "2"))) (.cons (.cst (.str (PySem.Str.ofString "5"))) (.cons (.cst (.str (PySem.Str.ofString "300"))) (.cons (.cst (.str (PySem.Str.ofString "301"))) (.cons (.cst (.str (PySem.Str.ofString "01"))) (.cons (.cst (.str (PySem.Str.ofString "-1"))) (.cons (.cst (.str (PySem.Str.ofString "sale"))) (.cons (.cst (.str (PySem.Str.ofString "row"))) (.cons (.cst (.str (PySem.Str.ofString "half"))) (.cons (.cst (.str (PySem.Str.ofString "one"))) (.cons (.cst (.str (PySem.Str.ofString "x"))) .nil)))))))))))))))) (.cons (.ite (.cmp .eq (.var 5) (.cst (.int 0))) (.cons (.ret (.bm .join (.cst (.str (PySem.Str.ofString " "))) (.cons (.bin .add (.slH (.var 2) (.var 4)) (.slT (.var 2) (.bin .add (.var 4) (.cst (.int 1))))) .nil))) .nil) .nil) (.cons (.ite (.cmp .eq (.var 5) (.cst (.int 1))) (.cons (.ret (.bm .join (.cst (.str (PySem.Str.ofString " "))) (.cons (.bin .add (.bin .add (.slH (.var 2) (.var 4)) (.lst (.cons (.idx (.var 2) (.var 4)) .nil))) (.slT (.var 2) (.var 4))) .nil))) .nil) .nil) (.cons (.ite (.cmp .eq (.var 5) (.cst (.int 2))) (.cons (.ret (.bm .join (.cst (.str (PySem.Str.ofString " "))) (.cons (.slH (.var 2) (.var 4)) .nil))) .nil) .nil) (.cons (.ret (.bm .join (.cst (.str (PySem.Str.ofString " "))) (.cons (.bin .add (.bin .add (.slH (.var 2) (.var 4)) (.lst (.cons (.idx (.var 3) (.call 4 (.cons (.var 0) (.cons (.cst (.int 14)) .nil)))) .nil))) (.slT (.var 2) (.bin .sub (.bin .add (.var 4) (.var 5)) (.cst (.int 3))))) .nil))) .nil)))))))
/-- _law_spoilt -/
def d12 : DefT := ⟨((PySem.Str.ofString "_law_spoilt"), none), (PySem.Str.ofString "_law_spoilt"), (PySem.Str.ofString "_law_spoilt"), defArgs st12, defBody st12, defScope st12, [(PySem.Str.ofString "_law_row"), (PySem.Str.ofString "_law_line"), (PySem.Str.ofString "_law_words_here"), (PySem.Str.ofString "_law_odd"), (PySem.Str.ofString "_law_at"), (PySem.Str.ofString "_law_turn_of")], [(PySem.Str.ofString "_law_row"), (PySem.Str.ofString "_law_line")], ⟨2, 6, b12⟩, false⟩
abbrev st13 : Stmt := top 33
abbrev b13 : Ss := (.cons (.asg 1 (.call 3 (.cons (.var 0) .nil))) (.cons (.for_ [2] (.range1 (.cst (.int 9))) (.cons (.unp [5, 6] (.call 6 (.cons (.var 1) .nil))) (.cons (.asg 3 (.call 7 (.cons (.var 5) (.cons (.var 6) (.cons (.call 5 (.cons (.var 1) (.cons (.cst (.int 9)) .nil))) .nil))))) (.cons (.for_ [4] (.range1 (.call 4 (.cons (.var 1) (.cons (.cst (.int 3)) .nil)))) (.cons (.par [7, 8] (.cons (.call 4 (.cons (.var 1) (.cons (.bf .len (.cons (.var 3) .nil)) .nil))) (.cons (.call 4 (.cons (.var 1) (.cons (.cst (.int 6)) .nil))) .nil))) (.cons (.ite (.and (.cmp .eq (.var 8) (.cst (.int 0))) (.cmp .gt (.bf .len (.cons (.var 3) .nil)) (.cst (.int 1)))) (.cons (.asg 3 (.bin .add (.slH (.var 3) (.var 7)) (.slT (.var 3) (.bin .add (.var 7) (.cst (.int 1)))))) .nil) (.cons (.ite (.cmp .eq (.var 8) (.cst (.int 1))) (.cons (.asg 3 (.bin .add (.bin .add (.slH (.var 3) (.var 7)) (.lst (.cons (.idx (.var 3) (.var 7)) .nil))) (.slT (.var 3) (.var 7)))) .nil) (.cons (.ite (.cmp .eq (.var 8) (.cst (.int 2))) (.cons (.asg 3 (.bin .add (.slT (.var 3) (.var 7)) (.slH (.var 3) (.var 7)))) .nil) (.cons (.setI (.var 3) (.var 7) (.call 12 (.cons (.var 1) (.cons (.idx (.var 3) (.var 7)) .nil)))) .nil)) .nil)) .nil)) .nil))) (.cons (.ite (.neT 14 (.apE [3] (.call 11 (.cons (.bm .join (.cst (.str (PySem.Str.ofString "\n"))) (.cons (.var 3) .nil)) .nil))) (.apE [3] (.call 10 (.cons (.var 3) .nil)))) (.cons (.ret (.cst (.bl false))) .nil) .nil) .nil))))) (.cons (.ret (.cmp .eq (.apE [] (.call 11 (.cons (.cst (.str (PySem.Str.ofString ""))) .nil))) (.lstF (.cons (.cst (.str (PySem.Str.ofString "line"))) (.cons (.cst (.int 1)) (.cons (.cst (.int 1)) .nil)))))) .nil)))
/-- law -/
def d13 : DefT := ⟨((PySem.Str.ofString "law"), none), (PySem.Str.ofString "law"), (PySem.Str.ofString "law"), defArgs st13, defBody st13, defScope st13, [(PySem.Str.ofString "_law_script"), (PySem.Str.ofString "_law_row"), (PySem.Str.ofString "_law_turn"), (PySem.Str.ofString "_law_lines_here"), (PySem.Str.ofString "_law_k"), (PySem.Str.ofString "_law_gets"), (PySem.Str.ofString "_law_ties"), (PySem.Str.ofString "_law_at"), (PySem.Str.ofString "_law_turn_of")], [(PySem.Str.ofString "_law_script")], ⟨1, 9, b13⟩, false⟩
abbrev st14 : Stmt := (inCls (top 16)).getD 3 (.Pass ⟨0, 0, 0, 0⟩)
abbrev b14 : Ss := (.cons (.ret (.and (.isi (.var 1) .sale) (.and (.cmp .eq (.fld (.var 0) (PySem.Str.ofString "taker")) (.fld (.var 1) (PySem.Str.ofString "taker"))) (.cmp .eq (.fld (.var 0) (PySem.Str.ofString "favoured")) (.fld (.var 1) (PySem.Str.ofString "favoured")))))) .nil)
/-- Sale.__eq__ -/
def d14 : DefT := ⟨((PySem.Str.ofString "Sale"), some (PySem.Str.ofString "__eq__")), (PySem.Str.ofString "__eq__"), (PySem.Str.ofString "Sale.__eq__"), defArgs st14, defBody st14, defScope st14, [(PySem.Str.ofString "self"), (PySem.Str.ofString "other")], [(PySem.Str.ofString "self"), (PySem.Str.ofString "other")], ⟨2, 2, b14⟩, false⟩
abbrev st15 : Stmt := (inCls (top 19)).getD 0 (.Pass ⟨0, 0, 0, 0⟩)
abbrev b15 : Ss := (.cons (.ite (.cmp .ge (.var 2) (.bf .len (.cons (.var 1) .nil))) (.cons (.raise 2 (.cons (.bin .add (.bf .len (.cons (.var 1) .nil)) (.cst (.int 1))) (.cons (.cst (.int 1)) .nil))) .nil) .nil) (.cons (.setF 3 (.var 0) (PySem.Str.ofString "words_in") (.comp [3] [3] true (.bm .split (.idx (.var 1) (.var 2)) (.cons (.cst (.str (PySem.Str.ofString " "))) .nil)) (.cmp .ne (.var 3) (.cst (.str (PySem.Str.ofString "")))) (.var 3))) (.cons (.setF 3 (.var 0) (PySem.Str.ofString "at_line") (.bin .add (.var 2) (.cst (.int 1)))) (.cons (.setF 3 (.var 0) (PySem.Str.ofString "spot") (.cst (.int 0))) .nil))))
/-- Line.__init__ -/
def d15 : DefT := ⟨((PySem.Str.ofString "Line"), some (PySem.Str.ofString "__init__")), (PySem.Str.ofString "__init__"), (PySem.Str.ofString "Line.__init__"), defArgs st15, defBody st15, defScope st15, [(PySem.Str.ofString "self"), (PySem.Str.ofString "rows"), (PySem.Str.ofString "at"), (PySem.Str.ofString "word")], [(PySem.Str.ofString "self"), (PySem.Str.ofString "rows"), (PySem.Str.ofString "at")], ⟨3, 4, b15⟩, false⟩
abbrev st16 : Stmt := (inCls (top 19)).getD 1 (.Pass ⟨0, 0, 0, 0⟩)
abbrev b16 : Ss := (.cons (.asg 2 (.ite (.cmp .lt (.fldC 3 (.var 0) (PySem.Str.ofString "spot")) (.bf .len (.cons (.fldC 3 (.var 0) (PySem.Str.ofString "words_in")) .nil))) (.idx (.fldC 3 (.var 0) (PySem.Str.ofString "words_in")) (.fldC 3 (.var 0) (PySem.Str.ofString "spot"))) (.cst (.str (PySem.Str.ofString ""))))) (.cons (.ite (.or (.cmp .eq (.var 2) (.cst (.str (PySem.Str.ofString "")))) (.cmp .nin (.var 2) (.var 1))) (.cons (.raise 2 (.cons (.fldC 3 (.var 0) (PySem.Str.ofString "at_line")) (.cons (.bin .add (.fldC 3 (.var 0) (PySem.Str.ofString "spot")) (.cst (.int 1))) .nil))) .nil) .nil) (.cons (.augF 3 (.var 0) (PySem.Str.ofString "spot") .add (.cst (.int 1))) (.cons (.ret (.var 2)) .nil))))
/-- Line.one_of -/
def d16 : DefT := ⟨((PySem.Str.ofString "Line"), some (PySem.Str.ofString "one_of")), (PySem.Str.ofString "one_of"), (PySem.Str.ofString "Line.one_of"), defArgs st16, defBody st16, defScope st16, [(PySem.Str.ofString "self"), (PySem.Str.ofString "some"), (PySem.Str.ofString "word")], [(PySem.Str.ofString "self"), (PySem.Str.ofString "some")], ⟨2, 3, b16⟩, false⟩
abbrev st17 : Stmt := (inCls (top 19)).getD 2 (.Pass ⟨0, 0, 0, 0⟩)
abbrev b17 : Ss := (.cons (.ret (.bf .int (.cons (.meth 3 (PySem.Str.ofString "one_of") 16 (.var 0) (.cons (.comp2 [3] [3] false false (.var 1) (.bin .add (.var 2) (.cst (.int 1))) (.cst (.bl true)) (.bf .str (.cons (.var 3) .nil))) .nil)) .nil))) .nil)
/-- Line.number -/
def d17 : DefT := ⟨((PySem.Str.ofString "Line"), some (PySem.Str.ofString "number")), (PySem.Str.ofString "number"), (PySem.Str.ofString "Line.number"), defArgs st17, defBody st17, defScope st17, [(PySem.Str.ofString "self"), (PySem.Str.ofString "low"), (PySem.Str.ofString "high"), (PySem.Str.ofString "number")], [(PySem.Str.ofString "self"), (PySem.Str.ofString "low"), (PySem.Str.ofString "high")], ⟨3, 4, b17⟩, false⟩
abbrev st18 : Stmt := (inCls (top 19)).getD 3 (.Pass ⟨0, 0, 0, 0⟩)
abbrev b18 : Ss := (.cons (.ite (.cmp .lt (.fldC 3 (.var 0) (PySem.Str.ofString "spot")) (.bf .len (.cons (.fldC 3 (.var 0) (PySem.Str.ofString "words_in")) .nil))) (.cons (.raise 2 (.cons (.fldC 3 (.var 0) (PySem.Str.ofString "at_line")) (.cons (.bin .add (.fldC 3 (.var 0) (PySem.Str.ofString "spot")) (.cst (.int 1))) .nil))) .nil) .nil) .nil)
/-- Line.finish -/
def d18 : DefT := ⟨((PySem.Str.ofString "Line"), some (PySem.Str.ofString "finish")), (PySem.Str.ofString "finish"), (PySem.Str.ofString "Line.finish"), defArgs st18, defBody st18, defScope st18, [(PySem.Str.ofString "self")], [(PySem.Str.ofString "self")], ⟨1, 1, b18⟩, false⟩
def ds : List DefT := [d0, d1, d2, d3, d4, d5, d6, d7, d8, d9, d10, d11, d12, d13, d14, d15, d16, d17, d18]
def gl : List (Str × D) := [((PySem.Str.ofString "LEAST"), (.str (PySem.Str.ofString "least"))), ((PySem.Str.ofString "HALF"), (.str (PySem.Str.ofString "half"))), ((PySem.Str.ofString "LAST"), (.str (PySem.Str.ofString "last"))), ((PySem.Str.ofString "ROW"), (.str (PySem.Str.ofString "row"))), ((PySem.Str.ofString "MOST_WANTED"), (.int 300)), ((PySem.Str.ofString "MOST_ROW"), (.int 4)), ((PySem.Str.ofString "GETTERS"), (.tup [(.str (PySem.Str.ofString "house")), (.str (PySem.Str.ofString "other"))])), ((PySem.Str.ofString "TIES"), (.tup [(.str (PySem.Str.ofString "one")), (.str (PySem.Str.ofString "other"))])), ((PySem.Str.ofString "LINES"), (.int 2))]
abbrev stS : Stmt := (inCls (top 16)).getD 0 (.Pass ⟨0, 0, 0, 0⟩)
def sd : DefT := ⟨((PySem.Str.ofString "Sale"), some (PySem.Str.ofString "__init__")), (PySem.Str.ofString "__init__"), (PySem.Str.ofString "Sale.__init__"), defArgs stS, defBody stS, defScope stS, [], [], ⟨0, 0, .nil⟩, false⟩
def tab : Tab := { sl := true, fns := [((PySem.Str.ofString "is_one_of"), 0), ((PySem.Str.ofString "read_wish"), 1), ((PySem.Str.ofString "read"), 2), ((PySem.Str.ofString "_law_draws"), 3), ((PySem.Str.ofString "_law_pick"), 4), ((PySem.Str.ofString "_law_wish"), 5), ((PySem.Str.ofString "_law_words"), 6), ((PySem.Str.ofString "_law_lines"), 7), ((PySem.Str.ofString "_law_first"), 8), ((PySem.Str.ofString "_law_lists"), 9), ((PySem.Str.ofString "_law_due"), 10), ((PySem.Str.ofString "_law_told"), 11), ((PySem.Str.ofString "_law_spoilt"), 12), ((PySem.Str.ofString "law"), 13)], meths := [(3, (PySem.Str.ofString "one_of"), 16), (3, (PySem.Str.ofString "number"), 17), (3, (PySem.Str.ofString "finish"), 18)], clsN := [((PySem.Str.ofString "BadGets"), 0), ((PySem.Str.ofString "BadTies"), 1), ((PySem.Str.ofString "BadLine"), 2)], flds := [(3, (PySem.Str.ofString "words_in")), (3, (PySem.Str.ofString "at_line")), (3, (PySem.Str.ofString "spot"))], ask := [((PySem.Str.ofString "BadGets"), 0), ((PySem.Str.ofString "BadTies"), 1), ((PySem.Str.ofString "BadLine"), 2), ((PySem.Str.ofString "SaleError"), 3), ((PySem.Str.ofString "ValueError"), 4)], xflds := [(PySem.Str.ofString "line"), (PySem.Str.ofString "word")], mks := [((PySem.Str.ofString "Line"), 3, 15)], eqF := [14], props := [((PySem.Str.ofString "gets"), (PySem.Str.ofString "taker")), ((PySem.Str.ofString "ties"), (PySem.Str.ofString "favoured"))], cprops := [] }
def subT : List (List Bool) := [[true, false, false, true, true], [false, true, false, true, true], [false, false, true, true, true]]
def cfg : Cfg := { T := tab, ds := ds, gl := gl, cn := [(PySem.Str.ofString "BadGets"), (PySem.Str.ofString "BadTies"), (PySem.Str.ofString "BadLine"), (PySem.Str.ofString "Line")], xc := [[], [], [(PySem.Str.ofString "line"), (PySem.Str.ofString "word")]], sub := fun i j => (subT.getD i []).getD j false, sal := ⟨0, 6, 7, 0, 1⟩, sd := sd }
theorem ok0 : defB cfg d0 = true := by decide +kernel
theorem ok1 : defB cfg d1 = true := by decide +kernel
theorem ok2 : defB cfg d2 = true := by decide +kernel
theorem ok3 : defB cfg d3 = true := by decide +kernel
theorem ok4 : defB cfg d4 = true := by decide +kernel
theorem ok5 : defB cfg d5 = true := by decide +kernel
theorem ok6 : defB cfg d6 = true := by decide +kernel
theorem ok7 : defB cfg d7 = true := by decide +kernel
theorem ok8 : defB cfg d8 = true := by decide +kernel
theorem ok9 : defB cfg d9 = true := by decide +kernel
theorem ok10 : defB cfg d10 = true := by decide +kernel
theorem ok11 : defB cfg d11 = true := by decide +kernel
theorem ok12 : defB cfg d12 = true := by decide +kernel
theorem ok13 : defB cfg d13 = true := by decide +kernel
theorem ok14 : defB cfg d14 = true := by decide +kernel
theorem ok15 : defB cfg d15 = true := by decide +kernel
theorem ok16 : defB cfg d16 = true := by decide +kernel
theorem ok17 : defB cfg d17 = true := by decide +kernel
theorem ok18 : defB cfg d18 = true := by decide +kernel
theorem okS0 : cfg.T.sl = true → salTB cfg = true := fun _ => by decide +kernel
theorem oks : ∀ t ∈ cfg.ds, defB cfg t = true := by
  intro t ht
  simp only [cfg, ds, List.mem_cons, List.not_mem_nil, or_false] at ht
  rcases ht with rfl | rfl | rfl | rfl | rfl | rfl | rfl | rfl | rfl | rfl | rfl | rfl | rfl | rfl | rfl | rfl | rfl | rfl | rfl
  · exact ok0
  · exact ok1
  · exact ok2
  · exact ok3
  · exact ok4
  · exact ok5
  · exact ok6
  · exact ok7
  · exact ok8
  · exact ok9
  · exact ok10
  · exact ok11
  · exact ok12
  · exact ok13
  · exact ok14
  · exact ok15
  · exact ok16
  · exact ok17
  · exact ok18
def loose0 : List PySem.Str := [(PySem.Str.ofString "SaleError"), (PySem.Str.ofString "BadGets"), (PySem.Str.ofString "BadTies"), (PySem.Str.ofString "BadLine"), (PySem.Str.ofString "is_one_of"), (PySem.Str.ofString "LEAST"), (PySem.Str.ofString "HALF"), (PySem.Str.ofString "LAST"), (PySem.Str.ofString "ROW"), (PySem.Str.ofString "MOST_WANTED"), (PySem.Str.ofString "MOST_ROW"), (PySem.Str.ofString "GETTERS"), (PySem.Str.ofString "TIES"), (PySem.Str.ofString "Sale"), (PySem.Str.ofString "LINES"), (PySem.Str.ofString "Line"), (PySem.Str.ofString "read_wish"), (PySem.Str.ofString "read"), (PySem.Str.ofString "_law_draws"), (PySem.Str.ofString "_law_pick"), (PySem.Str.ofString "_law_wish"), (PySem.Str.ofString "_law_words"), (PySem.Str.ofString "_law_lines"), (PySem.Str.ofString "_law_first"), (PySem.Str.ofString "_law_lists"), (PySem.Str.ofString "_law_due"), (PySem.Str.ofString "_law_told"), (PySem.Str.ofString "_law_spoilt")]
abbrev loose : List PySem.Str := loose0
abbrev R : PySem.W.OpenRow := PySem.W.OpenLaw.row PySem.Challenge.rw_pursesbid_k11_texts_refused
abbrev PR : Program := PySem.Challenge.pw_pursesbid_k11_texts_refused
abbrev LI : Nat := 33
abbrev FL : Nat := 13
abbrev i_is_one_of : Nat := 0
abbrev i_read_wish : Nat := 1
abbrev i_read : Nat := 2
abbrev i__law_draws : Nat := 3
abbrev i__law_pick : Nat := 4
abbrev i__law_wish : Nat := 5
abbrev i__law_words : Nat := 6
abbrev i__law_lines : Nat := 7
abbrev i__law_first : Nat := 8
abbrev i__law_lists : Nat := 9
abbrev i__law_due : Nat := 10
abbrev i__law_told : Nat := 11
abbrev i__law_spoilt : Nat := 12
abbrev i_law : Nat := 13
abbrev i_Sale___eq__ : Nat := 14
abbrev i_Line___init__ : Nat := 15
abbrev i_Line_one_of : Nat := 16
abbrev i_Line_number : Nat := 17
abbrev i_Line_finish : Nat := 18
abbrev B_is_one_of : Ss := b0
abbrev B_read_wish : Ss := b1
abbrev B_read : Ss := b2
abbrev B__law_draws : Ss := b3
abbrev B__law_pick : Ss := b4
abbrev B__law_wish : Ss := b5
abbrev B__law_words : Ss := b6
abbrev B__law_lines : Ss := b7
abbrev B__law_first : Ss := b8
abbrev B__law_lists : Ss := b9
abbrev B__law_due : Ss := b10
abbrev B__law_told : Ss := b11
abbrev B__law_spoilt : Ss := b12
abbrev B_law : Ss := b13
abbrev B_Sale___eq__ : Ss := b14
abbrev B_Line___init__ : Ss := b15
abbrev B_Line_one_of : Ss := b16
abbrev B_Line_number : Ss := b17
abbrev B_Line_finish : Ss := b18
abbrev g_LEAST : Nat := 0
abbrev g_HALF : Nat := 1
abbrev g_LAST : Nat := 2
abbrev g_ROW : Nat := 3
abbrev g_MOST_WANTED : Nat := 4
abbrev g_MOST_ROW : Nat := 5
abbrev g_GETTERS : Nat := 6
abbrev g_TIES : Nat := 7
abbrev g_LINES : Nat := 8
theorem gv_LEAST {m : Nat} {en : En} {h : List O} : evE (cfg.p.at_ m) (.glob 0) en h = .ok (.str (PySem.Str.ofString "least")) h := by rw [evE, PrI.gl_at]; rfl
theorem gv_HALF {m : Nat} {en : En} {h : List O} : evE (cfg.p.at_ m) (.glob 1) en h = .ok (.str (PySem.Str.ofString "half")) h := by rw [evE, PrI.gl_at]; rfl
theorem gv_LAST {m : Nat} {en : En} {h : List O} : evE (cfg.p.at_ m) (.glob 2) en h = .ok (.str (PySem.Str.ofString "last")) h := by rw [evE, PrI.gl_at]; rfl
theorem gv_ROW {m : Nat} {en : En} {h : List O} : evE (cfg.p.at_ m) (.glob 3) en h = .ok (.str (PySem.Str.ofString "row")) h := by rw [evE, PrI.gl_at]; rfl
theorem gv_MOST_WANTED {m : Nat} {en : En} {h : List O} : evE (cfg.p.at_ m) (.glob 4) en h = .ok (.int 300) h := by rw [evE, PrI.gl_at]; rfl
theorem gv_MOST_ROW {m : Nat} {en : En} {h : List O} : evE (cfg.p.at_ m) (.glob 5) en h = .ok (.int 4) h := by rw [evE, PrI.gl_at]; rfl
theorem gv_GETTERS {m : Nat} {en : En} {h : List O} : evE (cfg.p.at_ m) (.glob 6) en h = .ok (.tup [(.str (PySem.Str.ofString "house")), (.str (PySem.Str.ofString "other"))]) h := by rw [evE, PrI.gl_at]; rfl
theorem gv_TIES {m : Nat} {en : En} {h : List O} : evE (cfg.p.at_ m) (.glob 7) en h = .ok (.tup [(.str (PySem.Str.ofString "one")), (.str (PySem.Str.ofString "other"))]) h := by rw [evE, PrI.gl_at]; rfl
theorem gv_LINES {m : Nat} {en : En} {h : List O} : evE (cfg.p.at_ m) (.glob 8) en h = .ok (.int 2) h := by rw [evE, PrI.gl_at]; rfl
abbrev c_BadGets : Nat := 0
abbrev c_BadTies : Nat := 1
abbrev c_BadLine : Nat := 2
abbrev c_Line : Nat := 3
end Law_k11

set_option Elab.async false
set_option linter.all false
set_option maxRecDepth 100000
set_option maxHeartbeats 0
namespace Law_k11
open PySem PySem.Spec PySem.W PySem.Calls PyProof.Rows L2 Mi
abbrev hk : PySem.W.Hook := hookM PR 5 cfg
def ob (s : PySem.W.SharedT) : AlM := obsM PR 5 cfg (HandSHeadRun.getT s)
theorem ob_eq (s : PySem.W.SharedT) : ob s = hk.obs s.abs := obsM_eq (HandSHeadRun.getT_eq s)
abbrev q : Program := PySem.W.view R.prog [LI]
abbrev dl := HandSHeadRun.topDef R.prog LI
noncomputable abbrev endS (w : World) (os : OsState) : Option PySem.W.SharedT := HandSHeadRun.endF (HandSHeadRun.stepQ (HandSHeadRun.denQ HandSHeadRun.tabQ) R.prog w) 9000 R.prog w os
def A1 (w : World) (os : OsState) : Prop := (endS w os).map (fun s => (HandSHeadRun.looksF R.prog (boot_heap w.params) s.abs, HandSHeadRun.seenQ q loose (importedModules R.prog.main.body) (fun s => PySem.W.xlAt q [] s && PySem.W.recOk R.toRowW.records s) s.abs)) = some (true, PySem.W.openGood q loose)
def B1 (w : World) (os : OsState) : Prop := (endS w os).map (fun s => fnM (frM (HandSHeadRun.getT s) 5) cfg) = some (vaM cfg)
def C1 (w : World) (os : OsState) : Prop := (endS w os).map (fun s => okM (frM (HandSHeadRun.getT s) 5) cfg) = some true
def D1 (w : World) (os : OsState) : Prop := (endS w os).map (fun s => allB1 PR cfg (frM (HandSHeadRun.getT s) 5)) = some true
def E1 (w : World) (os : OsState) : Prop := (endS w os).map (fun s => allB2 PR cfg (frM (HandSHeadRun.getT s) 5)) = some true
theorem run_of (w : World) (a : ∀ os, A1 w os) (b : ∀ os, B1 w os) (c : ∀ os, C1 w os) (d : ∀ os, D1 w os) (e : ∀ os, E1 w os) : HandSHeadRun.RunEq R q hk ob 9000 loose w := by
  intro os
  have a := a os
  have b := b os
  have c := c os
  have d := d os
  have e := e os
  unfold A1 endS at a
  unfold B1 endS at b
  unfold C1 endS at c
  unfold D1 endS at d
  unfold E1 endS at e
  revert a b c d e
  generalize HandSHeadRun.endF (HandSHeadRun.stepQ (HandSHeadRun.denQ HandSHeadRun.tabQ) R.prog w) 9000 R.prog w os = o
  intro a b c d e
  cases o with
  | none => cases a
  | some s =>
    have a' := Option.some.inj a
    have b' := Option.some.inj b
    have c' := Option.some.inj c
    have d' := Option.some.inj d
    have e' := Option.some.inj e
    have de : allB PR cfg (frM (HandSHeadRun.getT s) 5) = true := Bool.and_eq_true_iff.mpr ⟨d', e'⟩
    have z : ob s = hk.val w := Prod.ext b' (Prod.ext c' de)
    obtain ⟨a1, a2⟩ := Prod.mk.inj a'
    show some (HandSHeadRun.looksF R.prog (boot_heap w.params) s.abs, HandSHeadRun.seenQ q loose (importedModules R.prog.main.body) (fun s => xlAt q [] s && recOk R.toRowW.records s) s.abs, ob s) = _
    rw [a1, a2, z]
    rfl
end Law_k11

set_option Elab.async false
set_option linter.all false
set_option maxRecDepth 100000
set_option maxHeartbeats 0
namespace Law_k11
open PySem PySem.Spec PySem.W PySem.Calls PyProof.Rows L2 Mi HandSHeadRun
theorem g1 : opening R.prog = plainProg R.prog.main.scope.names := by kernel_rfl
theorem g2 : ∀ s, fenceModules? R.prog s = some s := fun s => by kernel_rfl
theorem g3 : defOf q R.name = some (dl, []) := by kernel_rfl
theorem g4 : R.prog.theDef R.name = some (dl.params, dl.body, dl.scope) := by kernel_rfl
theorem g5 : kwWritten? dl.params.kwonlyargs dl.params.kw_defaults = some [] := by kernel_rfl
theorem g6 : (!R.writes || R.records.isEmpty) = true := by rfl
theorem g7 : R.wellSaid = true := by first | assumption | decide +kernel
theorem g8 : (chainsOk q && opensWell R.prog && (frees R.toRowW && R.within.isEmpty)) = true := by decide +kernel
theorem g9 : R.prog.bare := ⟨rfl, rfl, rfl, rfl, rfl, by decide +kernel⟩
theorem g10 : R.toRowW.promised := by w_witness2
theorem g11 (say : ∀ ns : List Int, ns.length ≤ 63 → ∃ h', (cfg.p.at_ 71).fn FL [.lsF (ns.map .int)] [] = .ok (.bl true) h') : WalkO q loose (XL q []) hk.says R.toRowW dl [] fun f vs => PySem.call f vs :=
  Mi.says_true (l := PySem.Challenge.rw_pursesbid_k11_texts_refused) (c := cfg) (j := 5) (q := q) (loose := loose) (XP := XL q []) (d := dl) (n := 63) (k := 71) (x := "_law_script") (t := d13) rfl (by decide) (by kernel_rfl) (by kernel_rfl) ⟨rfl, by decide, by decide⟩ okS0 oks (by decide +kernel) (by rfl) (by rfl) (by rfl) (by rfl) say
end Law_k11

set_option Elab.async false
set_option linter.all false
set_option maxRecDepth 100000
set_option maxHeartbeats 0
namespace Law_k11
open PySem PySem.Spec PySem.W PySem.Calls PyProof.Rows L2 Mi
theorem hdA (w : World) (os : OsState) : A1 w os := by
  unfold A1
  kernel_rfl
end Law_k11

set_option Elab.async false
set_option linter.all false
set_option maxRecDepth 100000
set_option maxHeartbeats 0
namespace Law_k11
open PySem PySem.Spec PySem.W PySem.Calls PyProof.Rows L2 Mi
theorem hdB (w : World) (os : OsState) : B1 w os := by
  unfold B1
  kernel_rfl
end Law_k11

set_option Elab.async false
set_option linter.all false
set_option maxRecDepth 100000
set_option maxHeartbeats 0
namespace Law_k11
open PySem PySem.Spec PySem.W PySem.Calls PyProof.Rows L2 Mi
theorem hdC (w : World) (os : OsState) : C1 w os := by
  unfold C1
  kernel_rfl
end Law_k11

set_option Elab.async false
set_option linter.all false
set_option maxRecDepth 100000
set_option maxHeartbeats 0
namespace Law_k11
open PySem PySem.Spec PySem.W PySem.Calls PyProof.Rows L2 Mi
theorem hdD (w : World) (os : OsState) : D1 w os := by
  unfold D1
  kernel_rfl
end Law_k11

set_option Elab.async false
set_option linter.all false
set_option maxRecDepth 100000
set_option maxHeartbeats 0
namespace Law_k11
open PySem PySem.Spec PySem.W PySem.Calls PyProof.Rows L2 Mi
theorem hdE (w : World) (os : OsState) : E1 w os := by
  unfold E1
  kernel_rfl
end Law_k11

set_option Elab.async false
set_option linter.all false
set_option maxRecDepth 100000
set_option maxHeartbeats 4000000
/-! TxA: what a law with texts asks first: draws, wishes (printed by mkTxA.py from other templates). -/
namespace Law_k11
open PySem PySem.Spec PyProof.Rows L2 Mi
theorem fnU {m f : Nat} {d : DefI} {ds : List D} {h : List O} (hd : cfg.p.defs[f]? = some d) (hl : ds.length = d.np) : (cfg.p.at_ (m + 1)).fn f ds h = outOf (evSs (cfg.p.at_ m) d.body (ds.map some ++ List.replicate (d.n - ds.length) none) h) := by
  show (match cfg.p.defs[f]? with
    | some d => if ds.length = d.np then Mi.runB (cfg.p.at_ m) d ds h else .stuck
    | none => .stuck) = _
  rw [hd]
  show (if ds.length = d.np then Mi.runB (cfg.p.at_ m) d ds h else .stuck) = _
  rw [if_pos hl]; rfl
abbrev AT (m : Nat) : Fns := cfg.p.at_ m
section
variable {F : Fns} {h h1 h2 : List O} {en : En} {A B Ce : E} {As : Es} {x y d : D} {ds : List D} {o : Out D}
theorem ev_notE {b : Bool} (hA : evE F A en h = .ok x h1) (ht : truI x h1 = some b) : evE F (.not A) en h = .ok (.bl (!b)) h1 := by
  rw [evE, hA]; simp only [Out.bind_ok, ht]
theorem s_expr (hA : evE F A en h = .ok x h1) : evS F (.expr A) en h = .nx en h1 := by rw [evS, hA]; rfl
theorem ev_tup (hA : evEs F As en h = .ok ds h1) (hl : ds.length ≤ LIM) : evE F (.tup As) en h = .ok (.tup ds) h1 := by
  rw [evE, hA]; simp only [Out.bind_ok]; rw [if_pos hl]
end
def nthS : Nat → Ss → S
  | 0, .cons s _ => s
  | n + 1, .cons _ r => nthS n r
  | _, _ => .bad
theorem glob_at {m i : Nat} {en : En} {h : List O} {q : Str × D} (e : cfg.p.gl[i]? = some q) : evE (AT m) (.glob i) en h = .ok q.2 h := by
  rw [evE, PrI.gl_at, e]
theorem fn_rt {m f np n : Nat} {b : Ss} {ds : List D} {h h' : List O} {d : D} (hd : cfg.p.defs[f]? = some ⟨np, n, b⟩) (hl : ds.length = np) (e : evSs (AT m) b (ds.map some ++ List.replicate (n - ds.length) none) h = .rt d h') : (AT (m + 1)).fn f ds h = .ok d h' := by
  rw [fnU hd hl]; exact (congrArg outOf e).trans rfl
theorem fn_nx {m f np n : Nat} {b : Ss} {ds : List D} {h h' : List O} {en : En} (hd : cfg.p.defs[f]? = some ⟨np, n, b⟩) (hl : ds.length = np) (e : evSs (AT m) b (ds.map some ++ List.replicate (n - ds.length) none) h = .nx en h') : (AT (m + 1)).fn f ds h = .ok .non h' := by
  rw [fnU hd hl]; exact (congrArg outOf e).trans rfl
theorem fn_ex {m f np n : Nat} {b : Ss} {ds : List D} {h h' : List O} {en : En} {x : Xc} (hd : cfg.p.defs[f]? = some ⟨np, n, b⟩) (hl : ds.length = np) (e : evSs (AT m) b (ds.map some ++ List.replicate (n - ds.length) none) h = .ex x en h') : (AT (m + 1)).fn f ds h = .exc x h' := by
  rw [fnU hd hl]; exact (congrArg outOf e).trans rfl
theorem glob' {m i : Nat} {en : En} {h : List O} {d : D} (e : (cfg.p.gl[i]?).map Prod.snd = some d) : evE (AT m) (.glob i) en h = .ok d h := by
  cases z : cfg.p.gl[i]? with
  | none => rw [z] at e; cases e
  | some q => rw [z] at e; rw [glob_at z]; exact congrArg (fun x => Out.ok x h) (Option.some.inj e)
inductive Ws where
  | L (j : Nat) | H | T | R (m k : Nat)
  deriving DecidableEq
def Ws.d : Ws → D
  | .L j => .tup [.str "least", .int (j : Nat)]
  | .H => .tup [.str "half"]
  | .T => .tup [.str "last"]
  | .R m k => .tup [.str "row", .int (m : Nat), .int (k : Nat)]
def rowsN : List (Nat × Nat) := [(1, 0), (2, 0), (2, 1), (3, 0), (3, 1), (3, 2), (4, 0), (4, 1), (4, 2), (4, 3)]
def Ws.ok : Ws → Prop
  | .R m k => (m, k) ∈ rowsN
  | _ => True
section
variable {set : En → D → Option En} {b : En → List O → OS}
theorem forI_inv (I : Nat → En → List O → Prop) : ∀ (ds : List D) (k : Nat) (en : En) (h : List O), (∀ i d en h, ds[i]? = some d → I (k + i) en h → ∃ en1 en2 h2, set en d = some en1 ∧ b en1 h = .nx en2 h2 ∧ I (k + i + 1) en2 h2) → I k en h → ∃ en' h', forI set b ds en h = .nx en' h' ∧ I (k + ds.length) en' h'
  | [], k, en, h, _, h0 => ⟨en, h, rfl, h0⟩
  | d :: ds, k, en, h, st, h0 => by
    obtain ⟨en1, en2, h2, e1, e2, i2⟩ := st 0 d en h rfl h0
    obtain ⟨en', h', e3, i3⟩ := forI_inv I ds (k + 1) en2 h2 (fun i d en h hd hi => by
      have z := st (i + 1) d en h (by simpa using hd) (by rw [show k + (i + 1) = k + 1 + i by omega]; exact hi)
      rw [show k + (i + 1) + 1 = k + 1 + i + 1 by omega] at z; exact z) i2
    refine ⟨en', h', ?_, by rw [List.length_cons, show k + (ds.length + 1) = k + 1 + ds.length by omega]; exact i3⟩
    rw [forI, e1]; simp only; rw [e2]; exact e3
end
theorem ev_methO {F : Fns} {A : E} {As : Es} {en : En} {h h1 h2 : List O} {c i f : Nat} {mm : Str} {fs : List (Str × D)} {ds : List D} {o : Out D} (hA : evE F A en h = .ok (.obj i) h1) (hi : h1[i]? = some (.ins c fs)) (hl : (fs.lookup mm).isNone = true) (hs : evEs F As en h1 = .ok ds h2) (hf : F.fn f (.obj i :: ds) h2 = o) : evE F (.meth c mm f A As) en h = o := by
  rw [evE, hA]; simp only [Out.bind_ok, hi]
  rw [if_pos ⟨trivial, hl⟩, hs]; simp only [Out.bind_ok]; exact hf
theorem set_same {h : List O} {a : Nat} {o : O} (e : h[a]? = some o) : h.set a o = h := by
  obtain ⟨q, e⟩ := List.getElem?_eq_some_iff.mp e
  subst e
  exact List.set_getElem_self q
/-! draws -/
def Hg (h : List O) : Prop := ∃ (ns : List Int) (p r s : Int), 0 ≤ p ∧ 0 ≤ r ∧ h[0]? = some (.lst (ns.map .int)) ∧ h[1]? = some (rowO 0 p r s)
structure Nx (h h' : List O) : Prop where
  hg : Hg h'
  len : h.length ≤ h'.length
  same : ∀ j, j < h.length → j ≠ 1 → h'[j]? = h[j]?
theorem Nx.refl {h : List O} (a : Hg h) : Nx h h := ⟨a, Nat.le_refl _, fun _ _ _ => rfl⟩
theorem Nx.trans {a b c : List O} (x : Nx a b) (y : Nx b c) : Nx a c := ⟨y.hg, Nat.le_trans x.len y.len, fun j h n => (y.same j (Nat.lt_of_lt_of_le h x.len) n).trans (x.same j h n)⟩
theorem Nx.new {h h' : List O} (x : Nx h h') (o : O) : Nx h (h' ++ [o]) := by
  obtain ⟨⟨ns, p, r, s, hp, hr, h0, h1⟩, len, same⟩ := x
  have l1 : 1 < h'.length := (List.getElem?_eq_some_iff.mp h1).1
  refine ⟨⟨ns, p, r, s, hp, hr, ?_, ?_⟩, by rw [List.length_append]; omega, fun j hj n => ?_⟩
  · rw [List.getElem?_append_left (by omega)]; exact h0
  · rw [List.getElem?_append_left l1]; exact h1
  · rw [List.getElem?_append_left (by omega)]; exact same j hj n
theorem pk {h : List O} (hg : Hg h) (k : Nat) (b : Int) (hb : 0 < b) (hb2 : b < 1000000) : ∃ (v : Nat) (h' : List O), (v : Int) < b ∧ (AT (k + 1)).fn i__law_pick [.obj 1, .int b] h = .ok (.int (v : Nat)) h' ∧ Nx h h' := by
  obtain ⟨ns, p, r, s, hp, hr, h0, h1⟩ := hg
  have l1 : 1 < h.length := (List.getElem?_eq_some_iff.mp h1).1
  have e0 : rowH h 0 1 p r s = h := set_same h1
  obtain ⟨v, p', r', s', v0, v1, q1, q2, e⟩ := run_pick (F := cfg.p.at_ k) (d := ⟨2, 4, pickB⟩) rfl (h := h) (i := 0) (j := 1) (ns := ns) (p := p) (r := r) (s := s) (m := b) l1 (by decide) h0 hp hr hb hb2
  rw [e0] at e
  refine ⟨v.toNat, rowH h 0 1 p' r' s', by omega, ?_, ⟨⟨ns, p', r', s', q1, q2, ?_, ?_⟩, by simp [rowH], fun j hj n => ?_⟩⟩
  · rw [Int.toNat_of_nonneg v0]
    show (match cfg.p.defs[i__law_pick]? with
      | some d => if ([.obj 1, .int b] : List D).length = d.np then Mi.runB (cfg.p.at_ k) d [.obj 1, .int b] h else .stuck
      | none => .stuck) = _
    exact e
  · unfold rowH; rw [List.getElem?_set_ne (by omega)]; exact h0
  · exact rowH_at l1
  · unfold rowH; rw [List.getElem?_set_ne (by omega)]
theorem range_at {lo : Nat} {hi : Int} {i : Nat} {d : D} (e : (rangeD (lo : Nat) hi)[i]? = some d) : (lo : Int) + i < hi ∧ d = .int ((lo + i : Nat) : Int) := by
  unfold rangeD at e
  rw [List.getElem?_map] at e
  by_cases z : i < (hi - (lo : Int)).toNat
  · rw [List.getElem?_range z] at e
    have := Option.some.inj e
    exact ⟨by omega, by rw [← this]; exact congrArg D.int (by omega)⟩
  · rw [List.getElem?_eq_none (by simp; omega)] at e
    cases e
theorem at_mem (l : List D) (v : Nat) (h1 : v < l.length) : ∃ g ∈ l, atI l (v : Int) = some g := ⟨_, List.getElem_mem h1, atI_nat (List.getElem?_eq_getElem h1)⟩
theorem draws_ok {k : Nat} {ns : List Int} : (AT (k + 2)).fn i__law_draws [.lsF (ns.map .int)] [] = .ok (.obj 1) [.lst (ns.map .int), rowO 0 0 0 7] := by kernel_rfl
theorem retN {F : Fns} {en : En} {c : E} {P : Ss} {x : D} {h h1 : List O} (hc : evE F c en h = .ok x h1) (ht : truI x h1 = some false) : evS F (.ite c P .nil) en h = .nx en h1 := by
  refine s_ite (b := false) (h1 := h1) ?_ ?_
  · unfold evT; rw [hc]; simp only [Out.bind_ok, ht]; rfl
  · rw [if_neg Bool.false_ne_true]; exact ss_nil
theorem hg0 {ns : List Int} : Hg [.lst (ns.map .int), rowO 0 0 0 7] := ⟨ns, 0, 0, 7, by decide, by decide, rfl, rfl⟩
theorem frz_w {w : Ws} {h : List O} : frzA 4 h w.d = some w.d := by cases w <;> rfl
theorem pure_w {w : Ws} : pureD w.d = true := by cases w <;> rfl
local macro_rules | `(tactic| decreasing_trivial_pre_omega) => `(tactic| with_reducible first
  | exact cmp_lt_t (by first | with_reducible assumption | omega | decide) | exact cmp_lt_f (by first | with_reducible assumption | omega | decide) | exact cmp_le_t (by first | with_reducible assumption | omega | decide) | exact cmp_le_f (by first | with_reducible assumption | omega | decide)
  | exact cmp_gt_t (by first | with_reducible assumption | omega | decide) | exact cmp_gt_f (by first | with_reducible assumption | omega | decide) | exact cmp_ge_t (by first | with_reducible assumption | omega | decide) | exact cmp_ge_f (by first | with_reducible assumption | omega | decide)
  | exact cmp_eq_it (by first | rfl | with_reducible assumption | omega | decide) | exact cmp_eq_if (by first | with_reducible assumption | omega | decide) | exact cmp_ne_it (by first | with_reducible assumption | omega | decide) | exact cmp_ne_if (by first | rfl | with_reducible assumption | omega | decide)
  | exact cmp_eq_st (by decide +kernel) | exact cmp_eq_sf (by decide +kernel) | exact cmp_ne_st (by decide +kernel) | exact cmp_ne_sf (by decide +kernel)
  | assumption)
local macro_rules | `(tactic| array_mem_dec) => `(tactic| first
  | with_reducible exact es_nil
  | (with_reducible apply es_cons
     · array_get_dec
     · array_mem_dec)
  | (with_reducible apply e_star
     · array_get_dec
     · (first | rfl | assumption)
     · array_mem_dec))
local macro_rules | `(tactic| array_get_dec) => `(tactic| first
  | with_reducible exact ev_cst
  | with_reducible exact ev_var rfl
  | with_reducible assumption
  | (with_reducible apply ev_call
     · array_mem_dec
     · infer_instance)
  | (with_reducible apply ev_idx
     · array_get_dec
     · array_get_dec
     · (first | rfl | assumption))
  | (with_reducible apply ev_cmp
     · array_get_dec
     · array_get_dec
     · decreasing_trivial_pre_omega)
  | (with_reducible apply e_fld
     · array_get_dec
     · (first | exact fld_tk | exact fld_fv))
  | (with_reducible apply e_tup
     · array_mem_dec
     · exact lim3 rfl)
  | (with_reducible apply ev_bin
     · array_get_dec
     · array_get_dec
     · (first | infer_instance | exact rfl | assumption))
  | (with_reducible apply e_neg
     array_get_dec)
  | (with_reducible apply e_not2
     · array_get_dec
     · (first | exact tru_t rfl | exact tru_f rfl | exact rfl)
     · (first | exact not_t | exact not_f | exact rfl))
  | (with_reducible apply e_isN
     array_get_dec)
  | (with_reducible apply e_notN
     array_get_dec)
  | (with_reducible apply e_and
     · array_get_dec
     · (first | exact tru_t rfl | exact tru_f rfl | exact rfl)
     · (dsimp only [pickE, Bool.not_true, Bool.not_false]; array_get_dec))
  | (with_reducible apply e_or
     · array_get_dec
     · (first | exact tru_t rfl | exact tru_f rfl | exact rfl)
     · (dsimp only [pickE, Bool.not_true, Bool.not_false]; array_get_dec))
  | (with_reducible apply e_ite
     · array_get_dec
     · (first | exact tru_t rfl | exact tru_f rfl | exact rfl)
     · (dsimp only [pickE, Bool.not_true, Bool.not_false]; array_get_dec))
  | (with_reducible apply e_chain
     · array_get_dec
     · array_get_dec
     · decreasing_trivial_pre_omega
     · (dsimp only [pickE, Bool.not_true, Bool.not_false]; array_get_dec))
  | (with_reducible apply e_lstF
     · array_mem_dec
     · exact lim3 rfl)
  | (with_reducible apply e_bf
     · array_mem_dec
     · (first | infer_instance | exact rfl | assumption))
  | (with_reducible apply e_isi
     · array_get_dec
     · exact rfl)
  | (with_reducible apply e_fldC
     · array_get_dec
     · (first | infer_instance | exact rfl | assumption))
  | (with_reducible apply e_callP2
     · array_mem_dec
     · (repeat' first | with_reducible exact FrzL.nil | with_reducible apply FrzL.cons | infer_instance | exact rfl)
     · infer_instance
     · (first | exact rfl | infer_instance))
  | (with_reducible apply e_ap
     · exact rfl
     · (dsimp only [List.replicate_succ, List.replicate_zero, List.length_cons, List.length_nil, Nat.reduceAdd]; repeat' first | with_reducible exact frzE_nil | ((with_reducible apply frzE_cons); exact rfl; (first | infer_instance | exact rfl); dsimp only [List.set_cons_succ, List.set_cons_zero]))
     · array_get_dec
     · (first | exact rfl | infer_instance))
  | with_reducible exact e_nnew0
  | (with_reducible apply e_mkSale
     · array_get_dec
     · array_get_dec
     · (first | infer_instance | exact rfl | assumption))
  | infer_instance)
local macro_rules | `(tactic| sizeOf_list_dec) => `(tactic| first
  | with_reducible exact ss_nil
  | (with_reducible refine ss_nx (by assumption) ?_)
  | (with_reducible refine ss_rt (by assumption))
  | (with_reducible apply r_ret
     array_get_dec
     done)
  | (with_reducible apply r_asg
     · array_get_dec
     dsimp only [List.set_cons_succ, List.set_cons_zero])
  | (with_reducible apply r_ite
     · array_get_dec
     · (first | exact tru_t rfl | exact tru_f rfl | exact rfl)
     dsimp only [pickS, Ss.app, Bool.not_true, Bool.not_false])
  | (with_reducible apply r_par
     · array_mem_dec
     · rfl
     dsimp only [List.set_cons_succ, List.set_cons_zero])
  | (with_reducible apply r_unp
     · array_get_dec
     · rfl
     dsimp only [List.set_cons_succ, List.set_cons_zero])
  | (with_reducible apply r_expr
     · array_get_dec
     skip)
  | (with_reducible apply r_exprX
     array_get_dec
     done)
  | (with_reducible apply r_raise
     · array_mem_dec
     · exact rfl)
  | (with_reducible apply r_aug
     · exact rfl
     · array_get_dec
     · exact rfl
     dsimp only [List.set_cons_succ, List.set_cons_zero])
  | with_reducible exact r_retN)
local macro_rules | `(tactic| decreasing_tactic) => `(tactic| ((try dsimp only [List.map, List.length_cons, List.length_nil, Nat.reduceAdd, Nat.reduceSub, List.replicate_succ, List.replicate_zero, List.cons_append, List.nil_append]); repeat sizeOf_list_dec))
local macro_rules | `(tactic| infer_instance) => `(tactic| with_reducible assumption)
local macro_rules | `(tactic| infer_instance) => `(tactic| with_reducible first | exact gv_LEAST | exact gv_HALF | exact gv_LAST | exact gv_ROW | exact gv_MOST_WANTED | exact gv_MOST_ROW | exact gv_GETTERS | exact gv_TIES | exact gv_LINES)
local macro_rules | `(tactic| infer_instance) => `(tactic| with_reducible first | exact len0 | exact len1 | exact len2 | exact len3)
def gT (g : Bool) : Str := if g = true then "other" else "house"
def tT (b : Bool) : Str := if b = true then "one" else "other"
theorem words_dr {h : List O} (hg : Hg h) (k : Nat) : ∃ (g b : Bool) (h' : List O), (AT (k + 2)).fn i__law_words [.obj 1] h = .ok (.tup [.str (gT g), .str (tT b)]) h' ∧ Nx h h' := by
  obtain ⟨v, h1, v1, e1, x1⟩ := pk hg k 2 (by decide) (by decide)
  obtain ⟨u, h2, u1, e2, x2⟩ := pk x1.hg k 2 (by decide) (by decide)
  have hv : v = 0 ∨ v = 1 := by omega
  have hu : u = 0 ∨ u = 1 := by omega
  refine ⟨decide (v = 0), decide (u = 0), h2, ?_, x1.trans x2⟩
  refine fn_rt (b := B__law_words) rfl rfl ?_
  rcases hv with rfl | rfl <;> rcases hu with rfl | rfl <;> decreasing_tactic
theorem wish_dr {h : List O} (hg : Hg h) (k n : Nat) (hn : n ≤ 1000) : ∃ (w : Ws) (h' : List O), w.ok ∧ (∀ j, w = .L j → j ≤ n + 1) ∧ (AT (k + 2)).fn i__law_wish [.obj 1, .int (n : Nat)] h = .ok w.d h' ∧ Nx h h' := by
  obtain ⟨v, h1, v1, e1, x1⟩ := pk hg k 5 (by decide) (by decide)
  by_cases c1 : (v : Int) < 2
  · obtain ⟨j, h2, j1, e2, x2⟩ := pk x1.hg k ((n : Int) + 2) (by omega) (by omega)
    refine ⟨.L j, h2, trivial, fun i hi => by have := Ws.L.inj hi; omega, ?_, x1.trans x2⟩
    show (AT (k + 2)).fn i__law_wish [.obj 1, .int (n : Nat)] h = .ok (.tup [.str "least", .int (j : Nat)]) h2
    refine fn_rt (b := B__law_wish) rfl rfl ?_
    decreasing_tactic
  by_cases c2 : (v : Int) = 2
  · refine ⟨.H, h1, trivial, fun i hi => (by cases hi), ?_, x1⟩
    show (AT (k + 2)).fn i__law_wish [.obj 1, .int (n : Nat)] h = .ok (.tup [.str "half"]) h1
    refine fn_rt (b := B__law_wish) rfl rfl ?_
    decreasing_tactic
  by_cases c3 : (v : Int) = 3
  · refine ⟨.T, h1, trivial, fun i hi => (by cases hi), ?_, x1⟩
    show (AT (k + 2)).fn i__law_wish [.obj 1, .int (n : Nat)] h = .ok (.tup [.str "last"]) h1
    refine fn_rt (b := B__law_wish) rfl rfl ?_
    decreasing_tactic
  obtain ⟨a, h2, a1, e2, x2⟩ := pk x1.hg k 4 (by decide) (by decide)
  obtain ⟨b, h3, b1, e3, x3⟩ := pk x2.hg k (1 + (a : Int)) (by omega) (by omega)
  have ok : (Ws.R (1 + a) b).ok := by
    show (1 + a, b) ∈ rowsN
    have ha : a = 0 ∨ a = 1 ∨ a = 2 ∨ a = 3 := by omega
    have hb : b = 0 ∨ b = 1 ∨ b = 2 ∨ b = 3 := by omega
    rcases ha with rfl | rfl | rfl | rfl <;> rcases hb with rfl | rfl | rfl | rfl <;> first | omega | decide
  refine ⟨.R (1 + a) b, h3, ok, fun i hi => (by cases hi), ?_, (x1.trans x2).trans x3⟩
  refine fn_rt (b := B__law_wish) rfl rfl ?_
  have ea : (1 : Int) + (a : Int) = ((1 + a : Nat) : Int) := by omega
  rw [show (Ws.R (1 + a) b).d = .tup [.str "row", .int (1 + (a : Int)), .int (b : Nat)] by rw [ea]; rfl]
  decreasing_tactic
end Law_k11

set_option Elab.async false
set_option linter.all false
set_option maxRecDepth 100000
set_option maxHeartbeats 4000000
/-! TxB: words of a line with blanks, plainly. -/
namespace Law_k11
open PySem PySem.Spec PyProof.Rows L2 Mi TL
/-- the words between blanks -/
def wds (a : List Nat) : List (List Nat) := (spl [32] 0 [] a).filter (fun w => !w.isEmpty)
theorem wds_sep {p q : List Nat} (h : 32 ∉ p) : wds (p ++ 32 :: q) = (if p.isEmpty = true then [] else [p]) ++ wds q := by
  unfold wds
  have e : spl [32] 0 [] (p ++ ([32] ++ q)) = p :: spl [32] 0 [] q := SX.spl_free q (by simp) (SX.free_head h)
  rw [show p ++ 32 :: q = p ++ ([32] ++ q) from rfl, e, List.filter_cons]
  cases p with
  | nil => rfl
  | cons c p => rfl
theorem wds_one {p : List Nat} (h : 32 ∉ p) : wds p = if p.isEmpty = true then [] else [p] := by
  unfold wds
  have e : spl [32] 0 [] (joinL [32] [p]) = [p] := SX.spl_join (by simp) (fun q hq => by
    have : q = p := by simpa using hq
    rw [this]; exact h)
  have j : joinL [32] [p] = p := by simp [joinL]
  rw [j] at e
  rw [e]
  cases p with
  | nil => rfl
  | cons c p => rfl
theorem wds_nil : wds [] = [] := wds_one (p := []) (by simp)
theorem wds_blank (q : List Nat) : wds (32 :: q) = wds q := wds_sep (p := []) (q := q) (by simp)
theorem wds_blanks : ∀ (k : Nat) (q : List Nat), wds (List.replicate k 32 ++ q) = wds q
  | 0, _ => rfl
  | k + 1, q => by rw [List.replicate_succ, List.cons_append, wds_blank, wds_blanks k q]
theorem wds_word {p q : List Nat} {k : Nat} (h : 32 ∉ p) (h2 : p ≠ []) : wds (p ++ List.replicate (k + 1) 32 ++ q) = p :: wds q := by
  have e : p ++ List.replicate (k + 1) 32 ++ q = p ++ 32 :: (List.replicate k 32 ++ q) := by rw [List.replicate_succ]; simp
  rw [e, wds_sep h, wds_blanks]
  cases p with
  | nil => exact absurd rfl h2
  | cons c p => rfl
/-- words, each with blanks behind it -/
def lsx : List (List Nat × Nat) → List Nat
  | [] => []
  | (p, k) :: r => p ++ List.replicate (k + 1) 32 ++ lsx r
theorem wds_lsx : ∀ {l : List (List Nat × Nat)}, (∀ p ∈ l, 32 ∉ p.1 ∧ p.1 ≠ []) → wds (lsx l) = l.map Prod.fst
  | [], _ => wds_nil
  | (p, k) :: r, h => by
    obtain ⟨h1, h2⟩ := h (p, k) (by simp)
    show wds (p ++ List.replicate (k + 1) 32 ++ lsx r) = _
    rw [wds_word h1 h2, wds_lsx (fun q hq => h q (by simp [hq]))]
    rfl
end Law_k11

set_option Elab.async false
set_option linter.all false
set_option maxRecDepth 100000
set_option maxHeartbeats 4000000
/-! TxC: comprehensions that leave the objects alone. -/
namespace Law_k11
open PySem PySem.Spec PyProof.Rows L2 Mi
section
variable {set : D → Option En} {ev : En → List O → Out (Option D)} {g : D → Option D} {i j : Nat}
theorem put_some {acc : List D} {d : D} {h : List O} (hi : h[i]? = some (.lst acc)) (hl : acc.length < LIM) : putL i (some d) h = some (h.set i (.lst (acc ++ [d]))) := by
  unfold putL; simp only [hi]; rw [if_pos hl]
theorem cmpL_pure : ∀ (ds : List D) (h : List O) (acc : List D), (∀ d, d ∈ ds → ∃ en, set d = some en ∧ ∀ h, ev en h = .ok (g d) h) → h[i]? = some (.lst acc) → acc.length + ds.length ≤ LIM → cmpL set ev i ds h = .ok () (h.set i (.lst (acc ++ ds.filterMap g)))
  | [], h, acc, _, hi, _ => by
    have e : h.set i (.lst (acc ++ ([] : List D).filterMap g)) = h := by rw [List.filterMap_nil, List.append_nil]; exact set_same hi
    rw [e]; rfl
  | d :: ds, h, acc, st, hi, hl => by
    obtain ⟨en, e1, e2⟩ := st d (by simp)
    have st' : ∀ d, d ∈ ds → ∃ en, set d = some en ∧ ∀ h, ev en h = .ok (g d) h := fun d hd => st d (by simp [hd])
    have li : i < h.length := (List.getElem?_eq_some_iff.mp hi).1
    rw [List.length_cons] at hl
    rw [cmpL, e1]; simp only
    rw [e2]; simp only [Out.bind_ok]
    rw [List.filterMap_cons]
    cases q : g d with
    | none =>
      show (match some h with
        | some h => cmpL set ev i ds h
        | none => .stuck) = _
      exact cmpL_pure ds h acc st' hi (by omega)
    | some y =>
      rw [put_some hi (by omega)]; simp only
      rw [cmpL_pure ds _ (acc ++ [y]) st' (List.getElem?_set_self li) (by rw [List.length_append]; show acc.length + 1 + ds.length ≤ LIM; omega), List.set_set, List.append_assoc]
      rfl
theorem cmpO_pure {ds : List D} (hij : i ≠ j) (st : ∀ d, d ∈ ds → ∃ en, set d = some en ∧ ∀ h, ev en h = .ok (g d) h) : ∀ (r k : Nat) (h : List O) (acc : List D), k + r = ds.length → h[j]? = some (.lst ds) → h[i]? = some (.lst acc) → acc.length + r ≤ LIM → cmpO j set ev i (r + 1) k h = .ok () (h.set i (.lst (acc ++ (ds.drop k).filterMap g)))
  | 0, k, h, acc, hk, hj, hi, _ => by
    have e : h.set i (.lst (acc ++ (ds.drop k).filterMap g)) = h := by rw [List.drop_of_length_le (by omega), List.filterMap_nil, List.append_nil]; exact set_same hi
    rw [e, cmpO, hj]; simp only
    rw [List.getElem?_eq_none (by omega)]
  | r + 1, k, h, acc, hk, hj, hi, hl => by
    have lk : k < ds.length := by omega
    have li : i < h.length := (List.getElem?_eq_some_iff.mp hi).1
    obtain ⟨en, e1, e2⟩ := st ds[k] (List.getElem_mem lk)
    rw [cmpO, hj]; simp only
    rw [List.getElem?_eq_getElem lk]; simp only
    rw [e1]; simp only
    rw [e2]; simp only [Out.bind_ok]
    rw [List.drop_eq_getElem_cons lk, List.filterMap_cons]
    cases q : g ds[k] with
    | none =>
      show (match some h with
        | some h => cmpO j set ev i (r + 1) (k + 1) h
        | none => .stuck) = _
      exact cmpO_pure hij st r (k + 1) h acc (by omega) hj hi (by omega)
    | some y =>
      rw [put_some hi (by omega)]; simp only
      rw [cmpO_pure hij st r (k + 1) _ (acc ++ [y]) (by omega) (by rw [List.getElem?_set_ne hij]; exact hj) (List.getElem?_set_self li) (by rw [List.length_append]; show acc.length + 1 + r ≤ LIM; omega), List.set_set, List.append_assoc]
      rfl
end
end Law_k11

set_option Elab.async false
set_option linter.all false
set_option maxRecDepth 100000
set_option maxHeartbeats 4000000
/-! TxD: blanks taken off leave the words as they are. -/
namespace Law_k11
open PySem PySem.Spec PyProof.Rows L2 Mi TL
theorem first32 : ∀ b : List Nat, 32 ∉ b ∨ ∃ p q, b = p ++ 32 :: q ∧ 32 ∉ p
  | [] => .inl (by simp)
  | c :: b => by
    by_cases h : c = 32
    · exact .inr ⟨[], b, by rw [h]; rfl, by simp⟩
    · rcases first32 b with z | ⟨p, q, e, hp⟩
      · exact .inl (by simp; exact ⟨fun e => h e.symm, z⟩)
      · exact .inr ⟨c :: p, q, by rw [e]; rfl, by simp; exact ⟨fun e => h e.symm, hp⟩⟩
theorem wds_rep (k : Nat) : wds (List.replicate k 32) = [] := by
  have := wds_blanks k []
  rwa [List.append_nil, wds_nil] at this
theorem wds_tail : ∀ (n : Nat) (b : List Nat) (k : Nat), b.length ≤ n → wds (b ++ List.replicate k 32) = wds b
  | n, b, k, hn => by
    rcases first32 b with h | ⟨p, q, rfl, hp⟩
    · cases k with
      | zero => rw [List.replicate_zero, List.append_nil]
      | succ k => rw [List.replicate_succ, wds_sep h, wds_rep, List.append_nil, wds_one h]
    · cases n with
      | zero => simp at hn
      | succ n =>
        rw [List.append_assoc, List.cons_append, wds_sep hp, wds_sep hp, wds_tail n q k (by rw [List.length_append, List.length_cons] at hn; omega)]
theorem tw_rep (a : List Nat) : a.takeWhile (fun c => c == 32) = List.replicate (a.takeWhile (fun c => c == 32)).length 32 := by
  refine List.eq_replicate_iff.mpr ⟨rfl, fun c hc => ?_⟩
  have := List.all_eq_true.mp (List.all_takeWhile (p := fun c => c == 32) (l := a)) c hc
  exact eq_of_beq this
theorem wds_front (a : List Nat) : wds (a.dropWhile (fun c => c == 32)) = wds a := by
  have e := List.takeWhile_append_dropWhile (p := fun c => c == 32) (l := a)
  have z := wds_blanks (a.takeWhile (fun c => c == 32)).length (a.dropWhile (fun c => c == 32))
  rw [← tw_rep, e] at z
  exact z.symm
theorem wds_back (a : List Nat) : wds (a.reverse.dropWhile (fun c => c == 32)).reverse = wds a := by
  have e := List.takeWhile_append_dropWhile (p := fun c => c == 32) (l := a.reverse)
  have e2 : a = (a.reverse.dropWhile (fun c => c == 32)).reverse ++ List.replicate (a.reverse.takeWhile (fun c => c == 32)).length 32 := by
    have := congrArg List.reverse e
    rw [List.reverse_append, List.reverse_reverse, tw_rep, List.reverse_replicate] at this
    exact this.symm
  have z := wds_tail _ (a.reverse.dropWhile (fun c => c == 32)).reverse (a.reverse.takeWhile (fun c => c == 32)).length (Nat.le_refl _)
  rw [← e2] at z
  exact z.symm
end Law_k11

set_option Elab.async false
set_option linter.all false
set_option maxRecDepth 100000
set_option maxHeartbeats 4000000
/-! TxE: strip(" ") and split(" ") of a text, in words. -/
namespace Law_k11
open PySem PySem.Spec PyProof.Rows L2 Mi TL
abbrev cds (x : Str) : List Nat := x.cps.toList
theorem con32 : (fun c => (" " : Str).cps.contains c) = fun c => c == 32 := by
  funext c
  have e : (" " : Str).cps = #[32] := by decide +kernel
  rw [e]
  by_cases h : c = 32
  · subst h; simp
  · have : (c == 32) = false := by simpa using h
    rw [this]
    simp [h]
theorem wds_strip (x : Str) : wds (cds (Txt.stripChars x " ")) = wds (cds x) := by
  unfold Txt.stripChars
  rw [show (" " : Str).cps.contains = (fun c => (" " : Str).cps.contains c) from rfl, con32, stripBy_eq]
  have lo : stripLo (fun c => c == 32) true x = ((cds x).takeWhile (fun c => c == 32)).length := by unfold stripLo; rw [if_pos rfl]
  rw [lo]
  have hi : stripHi (fun c => c == 32) true x ((cds x).takeWhile (fun c => c == 32)).length = x.length - (((cds x).drop ((cds x).takeWhile (fun c => c == 32)).length).reverse.takeWhile (fun c => c == 32)).length := by unfold stripHi; rw [if_pos rfl]
  rw [hi]
  have dr : (cds x).drop ((cds x).takeWhile (fun c => c == 32)).length = (cds x).dropWhile (fun c => c == 32) := by
    have e := List.takeWhile_append_dropWhile (p := fun c => c == 32) (l := cds x)
    have z := congrArg (List.drop ((cds x).takeWhile (fun c => c == 32)).length) e
    rw [List.drop_left] at z
    exact z.symm
  rw [dr]
  generalize hb : (cds x).dropWhile (fun c => c == 32) = b at *
  have lb : b.length = (cds x).length - ((cds x).takeWhile (fun c => c == 32)).length := by rw [← dr, List.length_drop]
  have xl : x.length = (cds x).length := by simp [cds, Str.length]
  have ex : cds (Builtin.Str.strSub x ((cds x).takeWhile (fun c => c == 32)).length (x.length - (b.reverse.takeWhile (fun c => c == 32)).length)) = b.take (b.length - (b.reverse.takeWhile (fun c => c == 32)).length) := by
    unfold cds Builtin.Str.strSub
    rw [Array.toList_extract, List.extract_eq_take_drop]
    show ((cds x).drop ((cds x).takeWhile (fun c => c == 32)).length).take _ = _
    have lb2 : b.length = x.cps.toList.length - (List.takeWhile (fun c => c == 32) x.cps.toList).length := lb
    rw [dr, xl]
    congr 1
    rw [show (cds x).length = x.cps.toList.length from rfl]
    omega
  rw [ex]
  have e2 : b.take (b.length - (b.reverse.takeWhile (fun c => c == 32)).length) = (b.reverse.dropWhile (fun c => c == 32)).reverse := by
    have e := List.takeWhile_append_dropWhile (p := fun c => c == 32) (l := b.reverse)
    have z : b = (b.reverse.dropWhile (fun c => c == 32)).reverse ++ (b.reverse.takeWhile (fun c => c == 32)).reverse := by
      have := congrArg List.reverse e
      rw [List.reverse_append, List.reverse_reverse] at this
      exact this.symm
    have l2 : b.length - (b.reverse.takeWhile (fun c => c == 32)).length = (b.reverse.dropWhile (fun c => c == 32)).reverse.length := by
      have := congrArg List.length z
      rw [List.length_append, List.length_reverse (as := b.reverse.takeWhile (fun c => c == 32))] at this
      omega
    rw [l2]
    conv => lhs; arg 2; rw [z]
    exact List.take_left
  rw [e2, wds_back, ← hb, wds_front]
/-- the parts that are kept -/
def keepW : D → Option D
  | .str s => if s = ("" : Str) then none else some (.str s)
  | d => some d
theorem split_wds (a : List Nat) : ((Txt.split (SX.S a) " ").map D.str).filterMap keepW = (wds a).map fun w => D.str (SX.S w) := by
  have e0 : (" " : Str) = SX.S [32] := by decide +kernel
  rw [e0, SX.split_S (by simp) (by decide)]
  unfold wds
  generalize spl [32] 0 [] a = l
  induction l with
  | nil => rfl
  | cons w l ih =>
    rw [List.map_cons, List.map_cons, List.filterMap_cons, List.filter_cons]
    cases w with
    | nil =>
      have : keepW (.str (SX.S [])) = none := by
        show (if SX.S [] = ("" : Str) then none else some (D.str (SX.S []))) = none
        exact if_pos (by decide +kernel)
      rw [this]; exact ih
    | cons c w =>
      have ne : ¬ SX.S (c :: w) = ("" : Str) := fun e => by
        have := congrArg (fun x : Str => x.cps.toList) e
        have h2 : c :: w = (("" : Str).cps.toList) := this
        rw [show ("" : Str).cps.toList = [] by decide +kernel] at h2
        cases h2
      have : keepW (.str (SX.S (c :: w))) = some (.str (SX.S (c :: w))) := by
        show (if SX.S (c :: w) = ("" : Str) then none else some (D.str (SX.S (c :: w)))) = some (.str (SX.S (c :: w)))
        exact if_neg ne
      rw [this]
      show _ :: _ = _
      rw [ih]; rfl
end Law_k11

set_option Elab.async false
set_option linter.all false
set_option maxRecDepth 100000
set_option maxHeartbeats 4000000
/-! TxF: a line that is read. -/
namespace Law_k11
open PySem PySem.Spec PyProof.Rows L2 Mi TL
theorem spl_mem : ∀ (n : Nat) (a : List Nat), a.length ≤ n → ∀ p ∈ spl [32] 0 [] a, ∀ c ∈ p, c ∈ a
  | n, a, hn, p, hp, c, hc => by
    rcases first32 a with h | ⟨q, r, rfl, hq⟩
    · have e : spl [32] 0 [] (joinL [32] [a]) = [a] := SX.spl_join (by simp) (fun q hq => by
        have : q = a := by simpa using hq
        rw [this]; exact h)
      rw [show joinL [32] [a] = a by simp [joinL]] at e
      rw [e] at hp
      have : p = a := by simpa using hp
      rw [← this]; exact hc
    · have e : spl [32] 0 [] (q ++ ([32] ++ r)) = q :: spl [32] 0 [] r := SX.spl_free r (by simp) (SX.free_head hq)
      rw [show q ++ 32 :: r = q ++ ([32] ++ r) from rfl, e] at hp
      rcases List.mem_cons.mp hp with rfl | hp
      · simp [hc]
      · cases n with
        | zero => simp at hn
        | succ n =>
          have := spl_mem n r (by rw [List.length_append, List.length_cons] at hn; omega) p hp c hc
          simp [this]
theorem spl_len : ∀ (n : Nat) (a : List Nat), a.length ≤ n → (spl [32] 0 [] a).length ≤ a.length + 1
  | n, a, hn => by
    rcases first32 a with h | ⟨q, r, rfl, hq⟩
    · have e : spl [32] 0 [] (joinL [32] [a]) = [a] := SX.spl_join (by simp) (fun q hq => by
        have : q = a := by simpa using hq
        rw [this]; exact h)
      rw [show joinL [32] [a] = a by simp [joinL]] at e
      rw [e]; simp
    · have e : spl [32] 0 [] (q ++ ([32] ++ r)) = q :: spl [32] 0 [] r := SX.spl_free r (by simp) (SX.free_head hq)
      rw [show q ++ 32 :: r = q ++ ([32] ++ r) from rfl, e]
      cases n with
      | zero => simp at hn
      | succ n =>
        have := spl_len n r (by rw [List.length_append, List.length_cons] at hn; omega)
        simp; omega
theorem ok_S {a : List Nat} (h : ∀ c ∈ a, c < 128) : SeqAt.shaped (.str (SX.S a)) = true := by
  unfold SeqAt.shaped
  have c : PyData.canLay0 (.str (SX.S a)) = true := by
    show PySem.PyData.strOk (SX.S a) = true
    unfold PySem.PyData.strOk
    rw [Array.all_eq_true']
    intro c hc
    have : c ∈ a := by simpa [SX.S] using hc
    have := h c this
    exact decide_eq_true (by omega)
  rw [c, Bool.true_and, decide_eq_true_eq]
  simp [PyData.depth]
def linO (q : Nat) (at_ spot : Int) : O := .ins c_Line [("words_in", .obj q), ("at_line", .int at_), ("spot", .int spot)]
def wdD (a : List Nat) : List D := (wds a).map fun w => .str (SX.S w)
section
variable {m r k : Nat} {a : List Nat} {rows : List D} {h : List O}
theorem ne_empty {s : List Nat} {h : List O} (hs : ∀ c ∈ s, c < 128) : cmpI .ne (.str (SX.S s)) (.str "") h = some (!decide (SX.S s = ("" : Str))) := by
  rw [cmpI, eqI_str (ok_S hs) (by decide +kernel)]; rfl
theorem s_setL {F : Fns} {i u : Nat} {A : E} {en : En} {h1 : List O} {d : D} {fs : List (Str × D)} {f : Str} (he : en[i]? = some (some (.obj u))) (hA : evE F A en h = .ok d h1) (hu : h1[u]? = some (.ins c_Line fs)) (hl : fs.length < 900) : evS F (.setF c_Line (.var i) f A) en h = .nx en (h1.set u (.ins c_Line (putD f d fs))) := by
  rw [evS, hA]; simp only [OS.of]
  rw [ev_var he]; simp only
  have : setFI c_Line (.obj u) f d h1 = some (h1.set u (.ins c_Line (putD f d fs))) := by
    simp only [setFI, hu]
    rw [if_pos ⟨trivial, hl⟩]
  rw [this]
theorem init_line (hr : h[r]? = some (.lst rows)) (hk : rows[k]? = some (.str (SX.S a))) (ha : ∀ c ∈ a, c < 128) (hl : a.length ≤ 900) (hn : rows.length ≤ 900) : (AT (m + 1)).fn i_Line___init__ [.obj h.length, .obj r, .int (k : Nat)] (h ++ [.ins c_Line []]) = .ok .non (h ++ [linO (h.length + 2) ((k : Int) + 1) 0, .lst ((Txt.split (SX.S a) " ").map .str), .lst (wdD a)]) := by
  have lr : r < h.length := (List.getElem?_eq_some_iff.mp hr).1
  have lk : k < rows.length := (List.getElem?_eq_some_iff.mp hk).1
  let h0 := h ++ [O.ins c_Line []]
  have hr0 : h0[r]? = some (.lst rows) := by rw [List.getElem?_append_left lr]; exact hr
  let E : En := [some (.obj h.length), some (.obj r), some (.int (k : Nat)), none]
  let P : List D := (Txt.split (SX.S a) " ").map .str
  have l0 : h0.length = h.length + 1 := by simp [h0]
  have e0 : (" " : Str) = SX.S [32] := by decide +kernel
  have eP : P = (spl [32] 0 [] a).map fun w => .str (SX.S w) := by
    show ((Txt.split (SX.S a) " ").map D.str) = _
    rw [e0, SX.split_S (by simp) (by decide), List.map_map]; rfl
  have lP : P.length ≤ 901 := by rw [eP, List.length_map]; have := spl_len _ a (Nat.le_refl _); omega
  -- the parts
  have sp : evE (AT m) (.bm .split (.idx (.var 1) (.var 2)) (.cons (.cst (.str " ")) .nil)) E h0 = .ok (.obj (h.length + 1)) (h0 ++ [.lst P]) := by
    have ix : evE (AT m) (.idx (.var 1) (.var 2)) E h0 = .ok (.str (SX.S a)) h0 := ev_idx (ev_var rfl) (ev_var rfl) (by simp only [idxI, itemsOf, hr0]; exact atI_nat hk)
    rw [evE, ix]; simp only [Out.bind_ok]
    have bt : bmT .split (.str (SX.S a)) h0 = true := rfl
    rw [if_pos bt, es_cons ev_cst es_nil]; simp only [Out.bind_ok]
    show (if ((" " : Str).length == 0) = false ∧ (SX.S a).length ≤ LIM then new (.lst P) h0 else .stuck) = _
    rw [if_pos ⟨by decide +kernel, by rw [SX.S_len]; unfold LIM; omega⟩, ← l0]; rfl
  let h1 := h0 ++ [O.lst P]
  have l1 : h1.length = h.length + 2 := by simp [h1, h0]
  have h1j : (h1 ++ [O.lst []])[h.length + 1]? = some (.lst P) := by
    rw [List.getElem?_append_left (by omega)]
    show (h0 ++ [O.lst P])[h.length + 1]? = _
    rw [← l0]; simp
  have h1i : (h1 ++ [O.lst []])[h1.length]? = some (.lst []) := by simp
  have cm : evE (AT m) (.comp [3] [3] true (.bm .split (.idx (.var 1) (.var 2)) (.cons (.cst (.str " ")) .nil)) (.cmp .ne (.var 3) (.cst (.str ""))) (.var 3)) E h0 = .ok (.obj (h.length + 2)) (h1 ++ [.lst (wdD a)]) := by
    rw [evE, sp]; simp only [Out.bind_ok]
    have hj : h1[h.length + 1]? = some (.lst P) := by
      show (h0 ++ [O.lst P])[h.length + 1]? = _
      rw [← l0]; simp
    show cmpE h1.length (match h1[h.length + 1]? with
      | some (.lst ds) => cmpO (h.length + 1) (setT [3] (wipeE E [3])) (elI true (evE (AT m) (.cmp .ne (.var 3) (.cst (.str "")))) (evE (AT m) (.var 3))) h1.length (ds.length + 1) 0 (h1 ++ [.lst []])
      | _ => .stuck) = _
    rw [hj]; simp only
    have st : ∀ d, d ∈ P → ∃ en, setT [3] (wipeE E [3]) d = some en ∧ ∀ h, elI true (evE (AT m) (.cmp .ne (.var 3) (.cst (.str "")))) (evE (AT m) (.var 3)) en h = .ok (keepW d) h := fun d hd => by
      rw [eP] at hd
      obtain ⟨w, hw, rfl⟩ := List.mem_map.mp hd
      have wok : ∀ c ∈ w, c < 128 := fun c hc => ha c (spl_mem _ a (Nat.le_refl _) w hw c hc)
      refine ⟨[some (.obj h.length), some (.obj r), some (.int (k : Nat)), some (.str (SX.S w))], rfl, fun h2 => ?_⟩
      unfold elI
      rw [if_pos rfl, ev_cmp (ev_var rfl) ev_cst (ne_empty wok)]; simp only [Out.bind_ok]
      show (match some (!decide (SX.S w = ("" : Str))) with
        | some true => _
        | some false => _
        | none => _) = _
      rw [show keepW (.str (SX.S w)) = if SX.S w = ("" : Str) then none else some (.str (SX.S w)) from rfl]
      by_cases z : SX.S w = ("" : Str)
      · rw [decide_eq_true z, if_pos z]; rfl
      · rw [decide_eq_false z, if_neg z]
        show (evE (AT m) (.var 3) _ h2).bind _ = _
        rw [ev_var rfl]; rfl
    rw [cmpO_pure (set := setT [3] (wipeE E [3])) (g := keepW) (i := h1.length) (j := h.length + 1) (ds := P) (by omega) st P.length 0 (h1 ++ [O.lst []]) [] (by omega) h1j h1i (by show 0 + P.length ≤ LIM; unfold LIM; omega)]
    have fm : (P.drop 0).filterMap keepW = wdD a := split_wds a
    rw [List.nil_append, fm]
    show Out.ok (D.obj h1.length) ((h1 ++ [O.lst []]).set h1.length (.lst (wdD a))) = _
    rw [l1, ← l1]
    simp
  have flat : h1 ++ [O.lst (wdD a)] = h ++ (.ins c_Line [] :: [.lst P, .lst (wdD a)]) := by simp [h1, h0]
  rw [flat] at cm
  have hs : ∀ (x y : O) (t : List O), (h ++ x :: t).set h.length y = h ++ y :: t := fun x y t => by simp
  have hg : ∀ (x : O) (t : List O), (h ++ x :: t)[h.length]? = some x := fun x t => by simp
  have ln : evE (AT m) (.bf .len (.cons (.var 1) .nil)) E h0 = .ok (.int (rows.length : Nat)) h0 := e_bf (es_cons (ev_var rfl) es_nil) (by simp only [bfI, itemsOf, hr0])
  have ge : cmpI .ge (.int (k : Nat)) (.int (rows.length : Nat)) h0 = some false := congrArg some (decide_eq_false (by omega))
  refine fn_nx (en := E) (b := B_Line___init__) rfl rfl ?_
  refine ss_nx (retN (ev_cmp (ev_var rfl) ln ge) rfl) ?_
  refine ss_nx (s_setL (i := 0) (u := h.length) (f := "words_in") rfl cm (hg _ _) (by show 0 < 900; decide)) ?_
  rw [hs]
  refine ss_nx (s_setL (i := 0) (u := h.length) (f := "at_line") rfl (ev_bin (ev_var rfl) ev_cst rfl) (hg _ _) (by show 1 < 900; decide)) ?_
  rw [hs]
  refine ss_nx (s_setL (i := 0) (u := h.length) (f := "spot") rfl ev_cst (hg _ _) (by show 2 < 900; decide)) ?_
  rw [hs]
  exact ss_nil
end
end Law_k11

set_option Elab.async false
set_option linter.all false
set_option maxRecDepth 100000
set_option maxHeartbeats 4000000
/-! TxG: one word of a line. -/
namespace Law_k11
open PySem PySem.Spec PyProof.Rows L2 Mi TL
section
variable {F : Fns} {m u q i : Nat} {at_ : Int} {ws : List D} {w : Str} {S : D} {h : List O} {en : En}
theorem li_spot (hu : h[u]? = some (linO q at_ i)) (he : en[0]? = some (some (.obj u))) : evE F (.fldC c_Line (.var 0) "spot") en h = .ok (.int (i : Nat)) h := e_fldC (ev_var he) (by simp only [fldCI, hu, linO]; rfl)
theorem li_words (hu : h[u]? = some (linO q at_ i)) (he : en[0]? = some (some (.obj u))) : evE F (.fldC c_Line (.var 0) "words_in") en h = .ok (.obj q) h := e_fldC (ev_var he) (by simp only [fldCI, hu, linO]; rfl)
theorem li_len (hu : h[u]? = some (linO q at_ i)) (hq : h[q]? = some (.lst ws)) (he : en[0]? = some (some (.obj u))) : evE F (.bf .len (.cons (.fldC c_Line (.var 0) "words_in") .nil)) en h = .ok (.int (ws.length : Nat)) h := e_bf (es_cons (li_words hu he) es_nil) (by simp only [bfI, itemsOf, hq])
theorem one_of_ok (hu : h[u]? = some (linO q at_ i)) (hq : h[q]? = some (.lst ws)) (hi : ws[i]? = some (.str w)) (ne : cmpI .eq (.str w) (.str "") h = some false) (mem : cmpI .nin (.str w) S h = some false) : (AT (m + 1)).fn i_Line_one_of [.obj u, S] h = .ok (.str w) (h.set u (linO q at_ (i + 1 : Nat))) := by
  have li : i < ws.length := (List.getElem?_eq_some_iff.mp hi).1
  let E : En := [some (.obj u), some S, some (.str w)]
  refine fn_rt (b := B_Line_one_of) rfl rfl ?_
  refine ss_nx (en1 := E) (h1 := h) (s_asg (e_ite (b := true) (ev_cmp (li_spot hu rfl) (li_len hu hq rfl) (cmp_lt_t (by omega))) rfl (ev_idx (li_words hu rfl) (li_spot hu rfl) (by simp only [idxI, itemsOf, hq]; exact atI_nat hi)))) ?_
  refine ss_nx (retN (e_or (b := false) (ev_cmp (ev_var rfl) ev_cst ne) rfl (ev_cmp (ev_var rfl) (ev_var rfl) mem)) rfl) ?_
  refine ss_nx (en1 := E) (h1 := h.set u (linO q at_ (i + 1 : Nat))) ?_ (ss_rt (s_ret (ev_var rfl)))
  show evS (AT m) (.augF c_Line (.var 0) "spot" .add (.cst (.int 1))) E h = _
  rw [evS, ev_var (d := .obj u) rfl]
  simp only [OS.of]
  have f : fldCI c_Line (.obj u) "spot" h = some (.int (i : Nat)) := by simp only [fldCI, hu, linO]; rfl
  rw [f]; simp only
  rw [ev_cst]; simp only
  have a : augI .add (.int (i : Nat)) (.int 1) = some (.int ((i + 1 : Nat) : Int)) := by
    show some (D.int ((i : Int) + 1)) = _
    rw [show ((i + 1 : Nat) : Int) = (i : Int) + 1 by omega]
  rw [a]; simp only
  have st : setFI c_Line (.obj u) "spot" (.int ((i + 1 : Nat) : Int)) h = some (h.set u (linO q at_ (i + 1 : Nat))) := by
    simp only [setFI, hu, linO]
    rw [if_pos ⟨trivial, by show 3 < 900; decide⟩]
    rfl
  rw [st]
theorem finish_ok (hu : h[u]? = some (linO q at_ ws.length)) (hq : h[q]? = some (.lst ws)) : (AT (m + 1)).fn i_Line_finish [.obj u] h = .ok .non h :=
  fn_nx (en := [some (.obj u)]) (b := B_Line_finish) rfl rfl (ss_nx (retN (ev_cmp (li_spot hu rfl) (li_len hu hq rfl) (cmp_lt_f (by omega))) rfl) ss_nil)
end
end Law_k11

set_option Elab.async false
set_option linter.all false
set_option maxRecDepth 100000
set_option maxHeartbeats 4000000
/-! TxH: a number of a line. -/
namespace Law_k11
open PySem PySem.Spec PyProof.Rows L2 Mi TL
def numS (j : Nat) : Str := Str.ofString (toString ((j : Nat) : Int))
theorem numS_S (j : Nat) : numS j = SX.S (numL j) := SX.num_S j
theorem numD (lo n : Nat) : ((List.range n).map fun (k : Nat) => D.int ((lo : Int) + (k : Int))).filterMap (fun d => match d with
    | .int i => some (D.str (toString i))
    | d => some d) = (List.range n).map fun k => D.str (numS (lo + k)) := by
  generalize List.range n = l
  induction l with
  | nil => rfl
  | cons k l ih =>
    rw [List.map_cons, List.map_cons, List.filterMap_cons]
    show D.str (Str.ofString (toString ((lo : Int) + (k : Int)))) :: _ = _
    rw [ih]
    show D.str (Str.ofString (toString ((lo : Int) + (k : Int)))) :: _ = D.str (Str.ofString (toString (((lo + k : Nat)) : Int))) :: _
    rw [show ((lo + k : Nat) : Int) = (lo : Int) + (k : Int) by omega]
section
variable {m u q i lo hi j : Nat} {at_ : Int} {ws : List D} {h : List O}
theorem numL_len (hj : j ≤ 1000) : (numL j).length ≤ 4 := by
  have : ∀ k : Nat, k ≤ 1000 → (numL k).length ≤ 4 := by decide +kernel
  exact this j hj
theorem num_int (hj : j ≤ 1000) : PySem.intText? (numS j) = some (j : Int) := int_num (Nat.le_trans (numL_len hj) (by decide))
theorem num_len (hj : j ≤ 1000) : (numS j).length ≤ 640 := by
  rw [numS_S, SX.S_len]; exact Nat.le_trans (numL_len hj) (by decide)
theorem num_ne (hj : j ≤ 1000) : cmpI .eq (.str (numS j)) (.str "") h = some false := by
  have d : ∀ c ∈ numL j, c < 128 := fun c hc => by
    have := numL_digits j c hc
    omega
  rw [numS_S, cmpI, eqI_str (ok_S d) (by decide +kernel)]
  have : ¬ SX.S (numL j) = ("" : Str) := fun e => by
    have h1 := congrArg (fun x : Str => x.cps.toList) e
    have h2 : numL j = (("" : Str).cps.toList) := h1
    rw [show ("" : Str).cps.toList = [] by decide +kernel] at h2
    exact numL_ne j h2
  rw [decide_eq_false this]
theorem str_int {v : Int} {h2 : List O} (hv : v.natAbs < 2 ^ 63) : bfI .str [.int v] h2 = .ok (.str (toString v)) h2 := by
  simp only [bfI]
  rw [if_pos hv]
def numG : D → Option D
  | .int i => some (D.str (toString i))
  | d => some d
def numL' (lo n : Nat) : List D := (List.range n).map fun (k : Nat) => D.int ((lo : Int) + (k : Int))
theorem num_el {F : Fns} {a b c : Option D} {v : Int} {h2 : List O} (hv : v.natAbs < 2 ^ 63) : elI false (evE F (.cst (.bl true))) (evE F (.bf .str (.cons (.var 3) .nil))) [a, b, c, some (.int v)] h2 = .ok (numG (.int v)) h2 := by
  unfold elI
  rw [if_neg Bool.false_ne_true, e_bf (es_cons (ev_var rfl) es_nil) (str_int hv)]; rfl
theorem nums_cm {F : Fns} {a b c : Option D} {n L : Nat} {h : List O} (hL : h[L]? = some (.lst [])) (h1 : lo ≤ 1000) (h2 : n ≤ 2000) : cmpL (setT [3] [a, b, c, none]) (elI false (evE F (.cst (.bl true))) (evE F (.bf .str (.cons (.var 3) .nil)))) L (numL' lo n) h = .ok () (h.set L (.lst ([] ++ (numL' lo n).filterMap numG))) := by
  refine cmpL_pure (numL' lo n) h [] (fun d hd => ?_) hL ?_
  · obtain ⟨k, hk, rfl⟩ := List.mem_map.mp hd
    have kl := List.mem_range.mp hk
    exact ⟨[a, b, c, some (.int ((lo : Int) + (k : Int)))], rfl, fun h3 => num_el (by omega)⟩
  · unfold numL'
    rw [List.length_map, List.length_range]
    show 0 + n ≤ LIM
    unfold LIM; omega
theorem nums_mem (h1 : lo ≤ j) (h2 : j ≤ hi) {L : Nat} (lN : h[L]? = some (.lst ((List.range (hi + 1 - lo)).map fun k => .str (numS (lo + k))))) : cmpI .nin (.str (numS j)) (.obj L) h = some false := by
  generalize hN : ((List.range (hi + 1 - lo)).map fun k => D.str (numS (lo + k))) = N at lN
  have fl : (flatD (.str (numS j)) && N.all flatD) = true := by
    rw [show flatD (.str (numS j)) = true from rfl, Bool.true_and, List.all_eq_true]
    intro d hd
    rw [← hN] at hd
    obtain ⟨k, _, rfl⟩ := List.mem_map.mp hd
    rfl
  have an : (N.any fun z => eqF z (.str (numS j))) = true := by
    rw [← hN]
    refine List.any_eq_true.mpr ⟨.str (numS (lo + (j - lo))), List.mem_map.mpr ⟨j - lo, List.mem_range.mpr (by omega), rfl⟩, ?_⟩
    show (numS (lo + (j - lo)) == numS j) = true
    rw [show lo + (j - lo) = j by omega]; simp
  show (inI (.str (numS j)) (.obj L) h).map (fun b => !b) = some false
  unfold inI
  simp only [itemsOf, lN]
  rw [if_pos fl, an]; rfl
end
end Law_k11

set_option Elab.async false
set_option linter.all false
set_option maxRecDepth 100000
set_option maxHeartbeats 4000000
/-! TxH2: a number of a line is read. -/
namespace Law_k11
open PySem PySem.Spec PyProof.Rows L2 Mi TL
section
variable {F : Fns} {m u q i lo hi j : Nat} {at_ : Int} {ws : List D} {h : List O}
theorem comp2_ok {en : En} {A B c elt : E} {vs tg : List Nat} {x y : Int} {h2 : List O} (hA : evE F A en h = .ok (.int x) h) (hB : evE F B en h = .ok (.int y) h) (sx : smallI x = true) (sy : smallI y = true) (hc : cmpL (setT tg (wipeE en vs)) (elI false (evE F c) (evE F elt)) h.length (rangeD x y) (h ++ [.lst []]) = .ok () h2) : evE F (.comp2 vs tg false false A B c elt) en h = .ok (.obj h.length) h2 := by
  rw [evE, hA]; simp only [Out.bind_ok]
  rw [hB]; simp only [Out.bind_ok]
  rw [sx, sy, Bool.and_self, if_pos rfl, hc]; rfl
theorem rg_L (h1 : lo ≤ hi + 1) : rangeD (lo : Int) ((hi + 1 : Nat) : Int) = numL' lo (hi + 1 - lo) := by
  unfold rangeD numL'
  rw [show (((hi + 1 : Nat) : Int) - (lo : Int)).toNat = hi + 1 - lo by omega]
theorem nums_ev (h1 : lo ≤ hi + 1) (h3 : hi ≤ 900) : evE F (.comp2 [3] [3] false false (.var 1) (.bin .add (.var 2) (.cst (.int 1))) (.cst (.bl true)) (.bf .str (.cons (.var 3) .nil))) [some (.obj u), some (.int (lo : Nat)), some (.int (hi : Nat)), none] h = .ok (.obj h.length) (h ++ [.lst ((numL' lo (hi + 1 - lo)).filterMap numG)]) := by
  have ad : binI .add (.int (hi : Nat)) (.int 1) h = .ok (.int ((hi + 1 : Nat) : Int)) h := by
    show Out.ok (D.int ((hi : Int) + 1)) h = _
    rw [show ((hi + 1 : Nat) : Int) = (hi : Int) + 1 by omega]
  refine comp2_ok (ev_var rfl) (ev_bin (ev_var rfl) ev_cst ad) (small_nat (by omega)) (small_nat (by omega)) ?_
  rw [rg_L h1]
  have z := nums_cm (F := F) (a := some (.obj u)) (b := some (.int (lo : Nat))) (c := some (.int (hi : Nat))) (lo := lo) (n := hi + 1 - lo) (L := h.length) (h := h ++ [O.lst []]) (by simp) (by omega) (by omega)
  rw [List.nil_append, show (h ++ [O.lst []]).set h.length (.lst ((numL' lo (hi + 1 - lo)).filterMap numG)) = h ++ [.lst ((numL' lo (hi + 1 - lo)).filterMap numG)] by simp] at z
  exact z
theorem numD' (lo n : Nat) : (numL' lo n).filterMap numG = (List.range n).map fun k => D.str (numS (lo + k)) := numD lo n
theorem number_ok (hu : h[u]? = some (linO q at_ i)) (hq : h[q]? = some (.lst ws)) (hi' : ws[i]? = some (.str (numS j))) (h1 : lo ≤ j) (h2 : j ≤ hi) (h3 : hi ≤ 900) : ∃ h', (AT (m + 2)).fn i_Line_number [.obj u, .int (lo : Nat), .int (hi : Nat)] h = .ok (.int (j : Nat)) h' ∧ h'[u]? = some (linO q at_ (i + 1 : Nat)) ∧ (∀ k, k < h.length → k ≠ u → h'[k]? = h[k]?) ∧ h.length ≤ h'.length := by
  have lu : u < h.length := (List.getElem?_eq_some_iff.mp hu).1
  have lq : q < h.length := (List.getElem?_eq_some_iff.mp hq).1
  have cm := nums_ev (F := AT (m + 1)) (u := u) (h := h) (lo := lo) (hi := hi) (by omega) h3
  rw [numD'] at cm
  have lN : (h ++ [O.lst ((List.range (hi + 1 - lo)).map fun k => D.str (numS (lo + k)))])[h.length]? = some (.lst ((List.range (hi + 1 - lo)).map fun k => .str (numS (lo + k)))) := by simp
  have hu2 : (h ++ [O.lst ((List.range (hi + 1 - lo)).map fun k => D.str (numS (lo + k)))])[u]? = some (linO q at_ i) := by rw [List.getElem?_append_left lu]; exact hu
  have hq2 : (h ++ [O.lst ((List.range (hi + 1 - lo)).map fun k => D.str (numS (lo + k)))])[q]? = some (.lst ws) := by rw [List.getElem?_append_left lq]; exact hq
  have o := one_of_ok (m := m) hu2 hq2 hi' (num_ne (by omega)) (nums_mem h1 h2 lN)
  have lu2 : u < (h ++ [O.lst ((List.range (hi + 1 - lo)).map fun k => D.str (numS (lo + k)))]).length := (List.getElem?_eq_some_iff.mp hu2).1
  have bi : ∀ h2, bfI .int [.str (numS j)] h2 = .ok (.int (j : Nat)) h2 := fun h2 => by
    simp only [bfI, num_int (show j ≤ 1000 by omega)]
    rw [if_pos (num_len (by omega))]
  exact ⟨_, fn_rt (b := B_Line_number) rfl rfl (ss_rt (s_ret (e_bf (es_cons (ev_methO (ev_var rfl) hu rfl (es_cons cm es_nil) o) es_nil) (bi _)))), List.getElem?_set_self lu2, fun k hk hne => by rw [List.getElem?_set_ne (fun z => hne z.symm), List.getElem?_append_left hk], by rw [List.length_set, List.length_append]; omega⟩
end
end Law_k11

set_option Elab.async false
set_option linter.all false
set_option maxRecDepth 100000
set_option maxHeartbeats 4000000
/-! TxI: the wish of a line is read. -/
namespace Law_k11
open PySem PySem.Spec PyProof.Rows L2 Mi TL
/-- a line's object: its words, how far it is read; the others stay -/
structure LnS (u q : Nat) (at_ : Int) (ws : List D) (i : Nat) (h0 h : List O) : Prop where
  hu : h[u]? = some (linO q at_ (i : Nat))
  hq : h[q]? = some (.lst ws)
  ne : u ≠ q
  len : h0.length ≤ h.length
  same : ∀ k, k < h0.length → k ≠ u → h[k]? = h0[k]?
section
variable {F : Fns} {m u q i lo hi j f c : Nat} {at_ : Int} {ws ds : List D} {h0 h h1 h2 : List O} {en : En} {w : Str} {es As : Es} {A : E} {x d : D}
theorem LnS.lu (x : LnS u q at_ ws i h0 h) : u < h.length := (List.getElem?_eq_some_iff.mp x.hu).1
theorem LnS.new (x : LnS u q at_ ws i h0 h) (o : O) : LnS u q at_ ws i h0 (h ++ [o]) := by
  have lu := x.lu
  have lq : q < h.length := (List.getElem?_eq_some_iff.mp x.hq).1
  refine ⟨by rw [List.getElem?_append_left lu]; exact x.hu, by rw [List.getElem?_append_left lq]; exact x.hq, x.ne, by rw [List.length_append]; have := x.len; omega, fun k hk hn => ?_⟩
  rw [List.getElem?_append_left (Nat.lt_of_lt_of_le hk x.len)]; exact x.same k hk hn
theorem LnS.step (x : LnS u q at_ ws i h0 h) : LnS u q at_ ws (i + 1) h0 (h.set u (linO q at_ (i + 1 : Nat))) := by
  refine ⟨List.getElem?_set_self x.lu, by rw [List.getElem?_set_ne x.ne]; exact x.hq, x.ne, by rw [List.length_set]; exact x.len, fun k hk hn => ?_⟩
  rw [List.getElem?_set_ne (Ne.symm hn)]; exact x.same k hk hn
theorem nin_obj {L : Nat} (hL : h[L]? = some (.lst ds)) (fl : ds.all flatD = true) (an : (ds.any fun z => eqF z (.str w)) = true) : cmpI .nin (.str w) (.obj L) h = some false := by
  show (inI (.str w) (.obj L) h).map (fun b => !b) = some false
  unfold inI
  simp only [itemsOf, hL]
  rw [if_pos (show (flatD (.str w) && ds.all flatD) = true by rw [fl]; rfl), an]; rfl
/-- a word of a list that is written out -/
theorem m_lst (x : LnS u q at_ ws i h0 h) (he : en[0]? = some (some (.obj u))) (hi : ws[i]? = some (.str w)) (hE : evEs (AT (m + 1)) es en h = .ok ds h) (hl : ds.length ≤ LIM) (ne : ∀ h, cmpI .eq (.str w) (.str "") h = some false) (fl : ds.all flatD = true) (an : (ds.any fun z => eqF z (.str w)) = true) :
    ∃ h', evE (AT (m + 1)) (.meth c_Line "one_of" i_Line_one_of (.var 0) (.cons (.lst es) .nil)) en h = .ok (.str w) h' ∧ LnS u q at_ ws (i + 1) h0 h' := by
  have y := x.new (.lst ds)
  exact ⟨_, ev_methO (ev_var he) x.hu rfl (es_cons (e_lst hE hl) es_nil) (one_of_ok y.hu y.hq hi (ne _) (nin_obj (ds := ds) (by simp) fl an)), y.step⟩
theorem m_num (x : LnS u q at_ ws i h0 h) (he : en[0]? = some (some (.obj u))) (hi' : ws[i]? = some (.str (numS j))) (hE : evEs (AT (m + 2)) es en h = .ok [.int (lo : Nat), .int (hi : Nat)] h) (h1 : lo ≤ j) (h2 : j ≤ hi) (h3 : hi ≤ 900) :
    ∃ h', evE (AT (m + 2)) (.meth c_Line "number" i_Line_number (.var 0) es) en h = .ok (.int (j : Nat)) h' ∧ LnS u q at_ ws (i + 1) h0 h' := by
  obtain ⟨h', e, eu, es', el⟩ := number_ok (m := m) x.hu x.hq hi' h1 h2 h3
  have lq : q < h.length := (List.getElem?_eq_some_iff.mp x.hq).1
  exact ⟨h', ev_methO (ev_var he) x.hu rfl hE e, ⟨eu, by rw [es' q lq (Ne.symm x.ne)]; exact x.hq, x.ne, Nat.le_trans x.len el, fun k hk hn => by rw [es' k (Nat.lt_of_lt_of_le hk x.len) hn]; exact x.same k hk hn⟩⟩
end
/-- a wish's words -/
def wishD : Ws → List D
  | .L j => [.str "wish", .str "least", .str (numS j)]
  | .H => [.str "wish", .str "half"]
  | .T => [.str "wish", .str "last"]
  | .R m k => [.str "wish", .str "row", .str (numS m), .str (numS k)]
theorem in_half {h : List O} : cmpI .inn (.str "half") (.tup [.str "half", .str "last"]) h = some true := by kernel_rfl
theorem in_last {h : List O} : cmpI .inn (.str "last") (.tup [.str "half", .str "last"]) h = some true := by kernel_rfl
theorem in_least {h : List O} : cmpI .inn (.str "least") (.tup [.str "half", .str "last"]) h = some false := by kernel_rfl
theorem in_row {h : List O} : cmpI .inn (.str "row") (.tup [.str "half", .str "last"]) h = some false := by kernel_rfl
section
variable {m u q : Nat} {at_ : Int} {h0 h : List O} {w : Ws}
theorem rw_first (x : LnS u q at_ (wishD w) 0 h0 h) : ∃ h', evS (AT (m + 2)) (nthS 0 B_read_wish) [some (.obj u), none, none] h = .nx [some (.obj u), none, none] h' ∧ LnS u q at_ (wishD w) 1 h0 h' := by
  obtain ⟨h', e, y⟩ := m_lst (m := m + 1) (w := "wish") (ds := [.str "wish"]) (es := .cons (.cst (.str "wish")) .nil) (en := [some (.obj u), none, none]) x rfl (by cases w <;> rfl) (es_cons ev_cst es_nil) (lim3 rfl) (fun h => cmp_eq_sf (by decide +kernel)) (by decide +kernel) (by decide +kernel)
  exact ⟨h', s_expr e, y⟩
def kindS : Ws → Str
  | .L _ => "least"
  | .H => "half"
  | .T => "last"
  | .R _ _ => "row"
def kinds4 : Es := .cons (.glob g_HALF) (.cons (.glob g_LAST) (.cons (.glob g_LEAST) (.cons (.glob g_ROW) .nil)))
theorem rw_kind {en : En} (x : LnS u q at_ (wishD w) 1 h0 h) (he : en[0]? = some (some (.obj u))) : ∃ h', evE (AT (m + 1)) (.meth c_Line "one_of" i_Line_one_of (.var 0) (.cons (.lst kinds4) .nil)) en h = .ok (.str (kindS w)) h' ∧ LnS u q at_ (wishD w) 2 h0 h' := by
  have hE : evEs (AT (m + 1)) kinds4 en h = .ok [.str "half", .str "last", .str "least", .str "row"] h := es_cons gv_HALF (es_cons gv_LAST (es_cons gv_LEAST (es_cons gv_ROW es_nil)))
  cases w with
  | L j => exact m_lst (w := "least") x he rfl hE (lim3 rfl) (fun h => cmp_eq_sf (by decide +kernel)) (by decide +kernel) (by decide +kernel)
  | H => exact m_lst (w := "half") x he rfl hE (lim3 rfl) (fun h => cmp_eq_sf (by decide +kernel)) (by decide +kernel) (by decide +kernel)
  | T => exact m_lst (w := "last") x he rfl hE (lim3 rfl) (fun h => cmp_eq_sf (by decide +kernel)) (by decide +kernel) (by decide +kernel)
  | R a b => exact m_lst (w := "row") x he rfl hE (lim3 rfl) (fun h => cmp_eq_sf (by decide +kernel)) (by decide +kernel) (by decide +kernel)
theorem tup_hl {h : List O} {en : En} : evE (AT m) (.tup (.cons (.glob g_HALF) (.cons (.glob g_LAST) .nil))) en h = .ok (.tup [.str "half", .str "last"]) h := e_tup (es_cons gv_HALF (es_cons gv_LAST es_nil)) (lim3 rfl)
theorem read_wish_ok (x : LnS u q at_ (wishD w) 0 h0 h) (hw : w.ok) (hj : ∀ j, w = .L j → j ≤ 300) : ∃ h', (AT (m + 3)).fn i_read_wish [.obj u] h = .ok w.d h' ∧ LnS u q at_ (wishD w) (wishD w).length h0 h' := by
  obtain ⟨h1, e1, x1⟩ := rw_first (m := m) x
  obtain ⟨h2, e2, x2⟩ := rw_kind (m := m + 1) (en := [some (.obj u), none, none]) x1 rfl
  cases w with
  | H => exact ⟨h2, fn_rt (m := m + 2) (b := B_read_wish) rfl rfl (ss_nx e1 (ss_nx (s_asg e2) (ss_rt (s_ite (b := true) (evT_bl (ev_cmp (ev_var rfl) tup_hl in_half)) (by rw [if_pos rfl]; exact ss_rt (s_ret (e_tup (es_cons (ev_var rfl) es_nil) (lim3 rfl)))))))), x2⟩
  | T => exact ⟨h2, fn_rt (m := m + 2) (b := B_read_wish) rfl rfl (ss_nx e1 (ss_nx (s_asg e2) (ss_rt (s_ite (b := true) (evT_bl (ev_cmp (ev_var rfl) tup_hl in_last)) (by rw [if_pos rfl]; exact ss_rt (s_ret (e_tup (es_cons (ev_var rfl) es_nil) (lim3 rfl)))))))), x2⟩
  | L j =>
    have j3 := hj j rfl
    obtain ⟨h3, e3, x3⟩ := m_num (m := m) (lo := 0) (hi := 300) (j := j) (en := [some (.obj u), some (.str "least"), none]) (es := .cons (.cst (.int 0)) (.cons (.glob g_MOST_WANTED) .nil)) x2 rfl rfl (es_cons ev_cst (es_cons gv_MOST_WANTED es_nil)) (by omega) j3 (by decide)
    exact ⟨h3, fn_rt (m := m + 2) (b := B_read_wish) rfl rfl (ss_nx e1 (ss_nx (s_asg e2) (ss_nx (retN (ev_cmp (ev_var rfl) tup_hl in_least) rfl) (ss_rt (s_ite (b := true) (evT_bl (ev_cmp (ev_var rfl) gv_LEAST (cmp_eq_st (a := "least") (b := "least") (by decide +kernel)))) (by rw [if_pos rfl]; exact ss_rt (s_ret (e_tup (es_cons (ev_var rfl) (es_cons e3 es_nil)) (lim3 rfl))))))))), x3⟩
  | R a b =>
    have hab : 1 ≤ a ∧ a ≤ 4 ∧ b ≤ a - 1 := by
      have z : ∀ p ∈ rowsN, 1 ≤ p.1 ∧ p.1 ≤ 4 ∧ p.2 ≤ p.1 - 1 := by decide
      exact z (a, b) hw
    obtain ⟨h3, e3, x3⟩ := m_num (m := m) (lo := 1) (hi := 4) (j := a) (en := [some (.obj u), some (.str "row"), none]) (es := .cons (.cst (.int 1)) (.cons (.glob g_MOST_ROW) .nil)) x2 rfl rfl (es_cons ev_cst (es_cons gv_MOST_ROW es_nil)) hab.1 hab.2.1 (by decide)
    have sb : binI .sub (.int (a : Nat)) (.int 1) h3 = .ok (.int ((a - 1 : Nat) : Int)) h3 := by
      show Out.ok (D.int ((a : Int) - 1)) h3 = _
      rw [show ((a - 1 : Nat) : Int) = (a : Int) - 1 by omega]
    obtain ⟨h4, e4, x4⟩ := m_num (m := m) (lo := 0) (hi := a - 1) (j := b) (en := [some (.obj u), some (.str "row"), some (.int (a : Nat))]) (es := .cons (.cst (.int 0)) (.cons (.bin .sub (.var 2) (.cst (.int 1))) .nil)) x3 rfl rfl (es_cons ev_cst (es_cons (ev_bin (ev_var rfl) ev_cst sb) es_nil)) (by omega) hab.2.2 (by omega)
    exact ⟨h4, fn_rt (m := m + 2) (b := B_read_wish) rfl rfl (ss_nx e1 (ss_nx (s_asg e2) (ss_nx (retN (ev_cmp (ev_var rfl) tup_hl in_row) rfl) (ss_nx (retN (ev_cmp (ev_var rfl) gv_LEAST (cmp_eq_sf (a := "row") (b := "least") (by decide +kernel))) rfl) (ss_nx (s_asg e3) (ss_rt (s_ret (e_tup (es_cons (ev_var rfl) (es_cons (ev_var rfl) (es_cons e4 es_nil))) (lim3 rfl))))))))), x4⟩
end
end Law_k11

set_option Elab.async false
set_option linter.all false
set_option maxRecDepth 100000
set_option maxHeartbeats 4000000
/-! TxJ: a text that is good is read. -/
namespace Law_k11
open PySem PySem.Spec PyProof.Rows L2 Mi TL
section
variable {F : Fns} {m u q i lo hi j f c : Nat} {at_ : Int} {ws ds : List D} {h0 h h1 h2 : List O} {en : En} {w : Str} {es As : Es} {A : E} {x d : D}
theorem e_mk (hA : evEs F As en h = .ok ds h1) (hf : F.fn f (.obj h1.length :: ds) (h1 ++ [.ins c []]) = .ok .non h2) : evE F (.mk c f As) en h = .ok (.obj h1.length) h2 := by
  rw [evE, hA]; simp only [Out.bind_ok]; rw [hf]; rfl
/-- a word of a tuple -/
theorem m_tup (x : LnS u q at_ ws i h0 h) {v : Nat} (he : en[v]? = some (some (.obj u))) (hi : ws[i]? = some (.str w)) (hA : evE (AT (m + 1)) A en h = .ok (.tup ds) h) (ne : ∀ h, cmpI .eq (.str w) (.str "") h = some false) (mem : ∀ h, cmpI .nin (.str w) (.tup ds) h = some false) :
    ∃ h', evE (AT (m + 1)) (.meth c_Line "one_of" i_Line_one_of (.var v) (.cons A .nil)) en h = .ok (.str w) h' ∧ LnS u q at_ ws (i + 1) h0 h' :=
  ⟨_, ev_methO (ev_var he) x.hu rfl (es_cons hA es_nil) (one_of_ok x.hu x.hq hi (ne _) (mem _)), x.step⟩
theorem m_lstV (x : LnS u q at_ ws i h0 h) {v : Nat} (he : en[v]? = some (some (.obj u))) (hi : ws[i]? = some (.str w)) (hE : evEs (AT (m + 1)) es en h = .ok ds h) (hl : ds.length ≤ LIM) (ne : ∀ h, cmpI .eq (.str w) (.str "") h = some false) (fl : ds.all flatD = true) (an : (ds.any fun z => eqF z (.str w)) = true) :
    ∃ h', evE (AT (m + 1)) (.meth c_Line "one_of" i_Line_one_of (.var v) (.cons (.lst es) .nil)) en h = .ok (.str w) h' ∧ LnS u q at_ ws (i + 1) h0 h' := by
  have y := x.new (.lst ds)
  exact ⟨_, ev_methO (ev_var he) x.hu rfl (es_cons (e_lst hE hl) es_nil) (one_of_ok y.hu y.hq hi (ne _) (nin_obj (ds := ds) (by simp) fl an)), y.step⟩
end
theorem gets_ne (g : Bool) (h : List O) : cmpI .eq (.str (gT g)) (.str "") h = some false := by
  cases g
  · exact cmp_eq_sf (by decide +kernel)
  · exact cmp_eq_sf (by decide +kernel)
theorem ties_ne (t : Bool) (h : List O) : cmpI .eq (.str (tT t)) (.str "") h = some false := by
  cases t
  · exact cmp_eq_sf (by decide +kernel)
  · exact cmp_eq_sf (by decide +kernel)
theorem gets_in (g : Bool) (h : List O) : cmpI .nin (.str (gT g)) (.tup [.str "house", .str "other"]) h = some false := by
  cases g
  · kernel_rfl
  · kernel_rfl
theorem ties_in (t : Bool) (h : List O) : cmpI .nin (.str (tT t)) (.tup [.str "one", .str "other"]) h = some false := by
  cases t
  · kernel_rfl
  · kernel_rfl
theorem mkS_ok {m : Nat} (g t : Bool) (h : List O) : (AT (m + 3)).mkS (.str (gT g)) (.str (tT t)) h = .ok (.sale (gT g) (tT t)) h := by
  cases g <;> cases t
  · kernel_rfl
  · kernel_rfl
  · kernel_rfl
  · kernel_rfl
/-- the text of two lines -/
def txt2 (a1 a2 : List Nat) : Str := SX.S (joinL [10] [a1, a2])
def good (a : List Nat) : Prop := (∀ c ∈ a, c < 128 ∧ c ≠ 10) ∧ a.length ≤ 900
theorem split2 {a1 a2 : List Nat} (g1 : good a1) (g2 : good a2) : (Txt.split (txt2 a1 a2) "\n").map D.str = [.str (SX.S a1), .str (SX.S a2)] := by
  have e0 : ("\n" : Str) = SX.S [10] := by decide +kernel
  have e : spl [10] 0 [] (joinL [10] [a1, a2]) = [a1, a2] := SX.spl_join (by simp) (fun p hp hc => by
    rcases List.mem_cons.mp hp with rfl | hp
    · exact (g1.1 10 hc).2 rfl
    · have : p = a2 := by simpa using hp
      subst this
      exact (g2.1 10 hc).2 rfl)
  unfold txt2
  rw [e0, SX.split_S (by simp) (by decide), e]; rfl
theorem split_ev {F : Fns} {a1 a2 : List Nat} {en : En} (g1 : good a1) (g2 : good a2) (he : en[0]? = some (some (.str (txt2 a1 a2)))) : evE F (.bm .split (.var 0) (.cons (.cst (.str "\n")) .nil)) en [] = .ok (.obj 0) [.lst [.str (SX.S a1), .str (SX.S a2)]] := by
  rw [evE, ev_var he]; simp only [Out.bind_ok]
  have bt : bmT .split (.str (txt2 a1 a2)) [] = true := rfl
  rw [if_pos bt, es_cons ev_cst es_nil]; simp only [Out.bind_ok]
  show (if (("\n" : Str).length == 0) = false ∧ (txt2 a1 a2).length ≤ LIM then new (.lst ((Txt.split (txt2 a1 a2) "\n").map .str)) [] else .stuck) = _
  have ll : (joinL [10] [a1, a2]).length ≤ LIM := by
    have : joinL [10] [a1, a2] = a1 ++ ([10] ++ a2) := by simp [joinL]
    rw [this]
    have := g1.2
    have := g2.2
    simp only [List.length_append, List.length_cons, List.length_nil]
    unfold LIM; omega
  rw [if_pos ⟨by decide +kernel, by unfold txt2; rw [SX.S_len]; exact ll⟩, split2 g1 g2]; rfl
section
variable {m : Nat} {g t : Bool} {w : Ws} {a1 a2 : List Nat} {h : List O}
abbrev EnR (a1 a2 : List Nat) (u : Nat) (w : Option D) (x y : Option D) : En := [some (.str (txt2 a1 a2)), some (.obj 0), some (.obj u), w, x, y]
theorem lnOf (hh : h = [.lst [.str (SX.S a1), .str (SX.S a2)]]) (g1 : good a1) : ∃ h', evE (AT (m + 1)) (.mk c_Line i_Line___init__ (.cons (.var 1) (.cons (.cst (.int 0)) .nil))) [some (.str (txt2 a1 a2)), some (.obj 0), none, none, none, none] h = .ok (.obj 1) h' ∧ LnS 1 3 1 (wdD a1) 0 h h' := by
  subst hh
  have z := init_line (m := m) (r := 0) (k := 0) (a := a1) (rows := [.str (SX.S a1), .str (SX.S a2)]) (h := [.lst [.str (SX.S a1), .str (SX.S a2)]]) rfl rfl (fun c hc => (g1.1 c hc).1) g1.2 (show 2 ≤ 900 by decide)
  refine ⟨_, e_mk (ds := [.obj 0, .int 0]) (es_cons (ev_var rfl) (es_cons ev_cst es_nil)) z, ⟨rfl, rfl, by decide, by simp, fun k hk hn => ?_⟩⟩
  have : k = 0 := by simp at hk; omega
  subst this; rfl
theorem ln2 (hr : h[0]? = some (.lst [.str (SX.S a1), .str (SX.S a2)])) (g2 : good a2) {x y z : Option D} {u0 : D} : ∃ u q h', evE (AT (m + 1)) (.mk c_Line i_Line___init__ (.cons (.var 1) (.cons (.cst (.int 1)) .nil))) [some (.str (txt2 a1 a2)), some (.obj 0), some u0, x, y, z] h = .ok (.obj u) h' ∧ LnS u q 2 (wdD a2) 0 h h' ∧ u = h.length := by
  have l0 : 0 < h.length := (List.getElem?_eq_some_iff.mp hr).1
  have z := init_line (m := m) (r := 0) (k := 1) (a := a2) (rows := [.str (SX.S a1), .str (SX.S a2)]) hr rfl (fun c hc => (g2.1 c hc).1) g2.2 (show 2 ≤ 900 by decide)
  refine ⟨h.length, h.length + 2, _, e_mk (ds := [.obj 0, .int 1]) (es_cons (ev_var rfl) (es_cons ev_cst es_nil)) z, ⟨by simp, by simp, by omega, by simp, fun k hk hn => ?_⟩, rfl⟩
  rw [List.getElem?_append_left hk]
theorem read_ok (g1 : good a1) (g2 : good a2) (w1 : wdD a1 = [.str "sale", .str (gT g), .str (tT t)]) (w2 : wdD a2 = wishD w) (hw : w.ok) (hj : ∀ j, w = .L j → j ≤ 300) : ∃ h', (AT (m + 4)).fn i_read [.str (txt2 a1 a2)] [] = .ok (.tup [.sale (gT g) (tT t), w.d]) h' := by
  let h0 : List O := [.lst [.str (SX.S a1), .str (SX.S a2)]]
  obtain ⟨h1, e1, x1⟩ := lnOf (m := m + 2) (h := h0) rfl g1
  rw [w1] at x1
  obtain ⟨h2, e2, x2⟩ := m_lstV (m := m + 2) (en := EnR a1 a2 1 none none none) (v := 2) (w := "sale") (ds := [.str "sale"]) (es := .cons (.cst (.str "sale")) .nil) x1 rfl rfl (es_cons ev_cst es_nil) (lim3 rfl) (fun h => cmp_eq_sf (by decide +kernel)) (by decide +kernel) (by decide +kernel)
  obtain ⟨h3, e3, x3⟩ := m_tup (m := m + 2) (en := EnR a1 a2 1 none none none) (v := 2) x2 rfl rfl (gv_GETTERS) (gets_ne g) (gets_in g)
  obtain ⟨h4, e4, x4⟩ := m_tup (m := m + 2) (en := EnR a1 a2 1 none none none) (v := 2) x3 rfl rfl (gv_TIES) (ties_ne t) (ties_in t)
  have r4 : h4[0]? = some (.lst [.str (SX.S a1), .str (SX.S a2)]) := x4.same 0 (show 0 < 1 by decide) (by decide)
  have e5 := finish_ok (m := m + 2) x4.hu x4.hq
  obtain ⟨u, q, h6, e6, x6, hu⟩ := ln2 (m := m + 2) (x := none) (y := some (.str (gT g))) (z := some (.str (tT t))) (u0 := .obj 1) r4 g2
  rw [w2] at x6
  obtain ⟨h7, e7, x7⟩ := read_wish_ok (m := m) x6 hw hj
  have r7 : h7[0]? = some (.lst [.str (SX.S a1), .str (SX.S a2)]) := by
    have l4 : 0 < h4.length := (List.getElem?_eq_some_iff.mp r4).1
    rw [x7.same 0 l4 (by omega)]; exact r4
  have e8 := finish_ok (m := m + 2) x7.hu x7.hq
  have ln : bfI .len [.obj 0] h7 = .ok (.int 2) h7 := by simp only [bfI, itemsOf, r7]; rfl
  refine ⟨h7, fn_rt (m := m + 3) (b := B_read) rfl rfl ?_⟩
  refine ss_nx (s_asg (split_ev g1 g2 rfl)) ?_
  refine ss_nx (s_asg e1) ?_
  refine ss_nx (s_expr e2) ?_
  refine ss_nx (s_par (es_cons e3 (es_cons e4 es_nil)) rfl) ?_
  refine ss_nx (s_expr (ev_methO (ev_var rfl) x4.hu rfl es_nil e5)) ?_
  refine ss_nx (s_asg e6) ?_
  refine ss_nx (s_asg (ev_call (es_cons (ev_var rfl) es_nil) e7)) ?_
  refine ss_nx (s_expr (ev_methO (ev_var rfl) x7.hu rfl es_nil e8)) ?_
  refine ss_nx (retN (ev_cmp (e_bf (es_cons (ev_var rfl) es_nil) ln) gv_LINES (cmp_gt_f (by decide))) rfl) ?_
  exact ss_rt (s_ret (e_tup (es_cons (e_mkSale (ev_var rfl) (ev_var rfl) (mkS_ok g t h7)) (es_cons (ev_var rfl) es_nil)) (lim3 rfl)))
end
end Law_k11

set_option Elab.async false
set_option linter.all false
set_option maxRecDepth 100000
set_option maxHeartbeats 4000000
/-! TxK: the lines of a sale and a wish, plainly and as the law and the program write them. -/
namespace Law_k11
open PySem PySem.Spec PyProof.Rows L2 Mi TL
def wishC : Ws → List (List Nat)
  | .L j => [cds "wish", cds "least", numL j]
  | .H => [cds "wish", cds "half"]
  | .T => [cds "wish", cds "last"]
  | .R m k => [cds "wish", cds "row", numL m, numL k]
def saleC (g t : Bool) : List (List Nat) := [cds "sale", cds (gT g), cds (tT t)]
def lnA (g t : Bool) : List Nat := joinL [32] (saleC g t)
def lnB (w : Ws) : List Nat := joinL [32] (wishC w)
/-- a word of a line -/
def wok (p : List Nat) : Bool := !p.isEmpty && p.all (fun c => decide (33 ≤ c) && decide (c < 128)) && decide (p.length ≤ 10)
structure Lin (ws : List (List Nat)) : Prop where
  ok : ∀ p ∈ ws, wok p = true
  len : ws.length ≤ 4
  ne : ws ≠ []
theorem wok_ne {p : List Nat} (h : wok p = true) : p ≠ [] ∧ (∀ c ∈ p, 33 ≤ c ∧ c < 128) ∧ p.length ≤ 10 := by
  unfold wok at h
  rw [Bool.and_eq_true, Bool.and_eq_true] at h
  obtain ⟨⟨h1, h2⟩, h3⟩ := h
  refine ⟨fun z => (by subst z; cases h1), fun c hc => ?_, of_decide_eq_true h3⟩
  have := List.all_eq_true.mp h2 c hc
  rw [Bool.and_eq_true] at this
  exact ⟨of_decide_eq_true this.1, of_decide_eq_true this.2⟩
theorem wok_num {j : Nat} (hj : j ≤ 1000) : wok (numL j) = true := by
  have z : ∀ j : Nat, j ≤ 1000 → wok (numL j) = true := by decide +kernel
  exact z j hj
theorem lin_wish {w : Ws} (hw : w.ok) (hj : ∀ j, w = .L j → j ≤ 300) : Lin (wishC w) := by
  cases w with
  | H => exact ⟨by decide +kernel, by decide, by simp [wishC]⟩
  | T => exact ⟨by decide +kernel, by decide, by simp [wishC]⟩
  | L j =>
    have := hj j rfl
    refine ⟨fun p hp => ?_, (by show 3 ≤ 4; decide), by simp [wishC]⟩
    rcases List.mem_cons.mp hp with rfl | hp
    · decide +kernel
    rcases List.mem_cons.mp hp with rfl | hp
    · decide +kernel
    have : p = numL j := by simpa using hp
    subst this; exact wok_num (by omega)
  | R a b =>
    have hab : 1 ≤ a ∧ a ≤ 4 ∧ b ≤ a - 1 := by
      have z : ∀ p ∈ rowsN, 1 ≤ p.1 ∧ p.1 ≤ 4 ∧ p.2 ≤ p.1 - 1 := by decide
      exact z (a, b) hw
    refine ⟨fun p hp => ?_, (by show 4 ≤ 4; decide), by simp [wishC]⟩
    rcases List.mem_cons.mp hp with rfl | hp
    · decide +kernel
    rcases List.mem_cons.mp hp with rfl | hp
    · decide +kernel
    rcases List.mem_cons.mp hp with rfl | hp
    · exact wok_num (by omega)
    have : p = numL b := by simpa using hp
    subst this; exact wok_num (by omega)
theorem lin_sale (g t : Bool) : Lin (saleC g t) := by
  cases g <;> cases t
  · exact ⟨by decide +kernel, by decide, by simp [saleC]⟩
  · exact ⟨by decide +kernel, by decide, by simp [saleC]⟩
  · exact ⟨by decide +kernel, by decide, by simp [saleC]⟩
  · exact ⟨by decide +kernel, by decide, by simp [saleC]⟩
theorem join_mem {x : Nat} : ∀ (ws : List (List Nat)) (c : Nat), c ∈ joinL [x] ws → c = x ∨ ∃ p ∈ ws, c ∈ p
  | [], c, h => by simp [joinL] at h
  | [p], c, h => by
    have : c ∈ p := by simpa [joinL] using h
    exact .inr ⟨p, by simp, this⟩
  | p :: q :: r, c, h => by
    have e : joinL [x] (p :: q :: r) = p ++ ([x] ++ joinL [x] (q :: r)) := by simp [joinL]
    rw [e] at h
    rcases List.mem_append.mp h with h | h
    · exact .inr ⟨p, by simp, h⟩
    rcases List.mem_append.mp h with h | h
    · exact .inl (by simpa using h)
    · rcases join_mem (q :: r) c h with h | ⟨s, hs, h⟩
      · exact .inl h
      · exact .inr ⟨s, by simp [List.mem_cons.mp hs], h⟩
theorem join_len {x : Nat} {b : Nat} : ∀ (ws : List (List Nat)), (∀ p ∈ ws, p.length ≤ b) → (joinL [x] ws).length ≤ ws.length * (b + 1)
  | [], _ => by simp [joinL]
  | [p], h => by
    have e : joinL [x] [p] = p := by simp [joinL]
    rw [e]
    have := h p (by simp)
    simp; omega
  | p :: q :: r, h => by
    have e : joinL [x] (p :: q :: r) = p ++ ([x] ++ joinL [x] (q :: r)) := by simp [joinL]
    rw [e, List.length_append, List.length_append]
    have h1 := h p (by simp)
    have h2 := join_len (x := x) (b := b) (q :: r) (fun s hs => h s (by simp [List.mem_cons.mp hs]))
    simp only [List.length_cons, List.length_nil] at h2 ⊢
    rw [Nat.succ_mul (r.length + 1)]
    omega
section
variable {ws : List (List Nat)}
theorem Lin.spl (x : Lin ws) : spl [32] 0 [] (joinL [32] ws) = ws := SX.spl_join x.ne (fun p hp hc => by
  have := ((wok_ne (x.ok p hp)).2.1 32 hc).1
  omega)
theorem Lin.wds (x : Lin ws) : wds (joinL [32] ws) = ws := by
  unfold Law_k11.wds
  rw [x.spl]
  refine List.filter_eq_self.mpr fun p hp => ?_
  have := (wok_ne (x.ok p hp)).1
  cases p with
  | nil => exact absurd rfl this
  | cons c p => rfl
theorem Lin.good (x : Lin ws) : good (joinL [32] ws) := by
  refine ⟨fun c hc => ?_, ?_⟩
  · rcases join_mem ws c hc with rfl | ⟨p, hp, hc⟩
    · decide
    · have := (wok_ne (x.ok p hp)).2.1 c hc
      omega
  · have := join_len (x := 32) (b := 10) ws (fun p hp => (wok_ne (x.ok p hp)).2.2)
    have := x.len
    omega
end
theorem S_cds (s : Str) : SX.S (cds s) = s := SX.S_tl s
theorem wd_sale {g t : Bool} {a : List Nat} (e : wds a = saleC g t) : wdD a = [.str "sale", .str (gT g), .str (tT t)] := by
  unfold wdD
  rw [e]
  show [D.str (SX.S (cds "sale")), .str (SX.S (cds (gT g))), .str (SX.S (cds (tT t)))] = _
  rw [S_cds, S_cds, S_cds]
theorem wd_wish {w : Ws} {a : List Nat} (e : wds a = wishC w) : wdD a = wishD w := by
  unfold wdD
  rw [e]
  cases w with
  | L j =>
    show [D.str (SX.S (cds "wish")), .str (SX.S (cds "least")), .str (SX.S (numL j))] = [.str "wish", .str "least", .str (numS j)]
    rw [S_cds, S_cds, numS_S]
  | H =>
    show [D.str (SX.S (cds "wish")), .str (SX.S (cds "half"))] = [.str "wish", .str "half"]
    rw [S_cds, S_cds]
  | T =>
    show [D.str (SX.S (cds "wish")), .str (SX.S (cds "last"))] = [.str "wish", .str "last"]
    rw [S_cds, S_cds]
  | R p q =>
    show [D.str (SX.S (cds "wish")), .str (SX.S (cds "row")), .str (SX.S (numL p)), .str (SX.S (numL q))] = [.str "wish", .str "row", .str (numS p), .str (numS q)]
    rw [S_cds, S_cds, numS_S, numS_S]
/-! as they are written -/
def allW : List Ws := (List.range 301).map Ws.L ++ ([Ws.H, Ws.T] ++ rowsN.map fun p => Ws.R p.1 p.2)
theorem allW_mem {w : Ws} (hw : w.ok) (hj : ∀ j, w = .L j → j ≤ 300) : w ∈ allW := by
  unfold allW
  cases w with
  | L j => exact List.mem_append_left _ (List.mem_map.mpr ⟨j, List.mem_range.mpr (by have := hj j rfl; omega), rfl⟩)
  | H => exact List.mem_append_right _ (by simp)
  | T => exact List.mem_append_right _ (by simp)
  | R a b => exact List.mem_append_right _ (List.mem_append_right _ (List.mem_map.mpr ⟨(a, b), hw, rfl⟩))
def isTx (o : Out Mi.D) (a : List Nat) : Bool := match o with
  | .ok (.str s) _ => cds s == a
  | _ => false
theorem isTx_ok {o : Out Mi.D} {a : List Nat} (h : isTx o a = true) : ∃ h', o = .ok (.str (SX.S a)) h' := by
  unfold isTx at h
  split at h
  · rename_i s hh
    have : cds s = a := eq_of_beq h
    exact ⟨hh, by rw [← this, S_cds]⟩
  · cases h
end Law_k11

set_option Elab.async false
set_option linter.all false
set_option maxRecDepth 100000
set_option maxHeartbeats 4000000
/-! TxN: words that may not stand: errors let out. -/
namespace Law_k11
open PySem PySem.Spec PyProof.Rows L2 Mi TL
section
variable {F : Fns} {h h1 h2 : List O} {en en1 : En} {A B : E} {As : Es} {d : D} {ds : List D} {X : Xc} {s : S} {ss : Ss}
theorem es_x1 (hA : evE F A en h = .exc X h1) : evEs F (.cons A As) en h = .exc X h1 := by rw [evEs, hA]; rfl
theorem es_x2 (hA : evE F A en h = .ok d h1) (hs : evEs F As en h1 = .exc X h2) : evEs F (.cons A As) en h = .exc X h2 := by rw [evEs, hA]; simp only [Out.bind_ok]; rw [hs]; rfl
theorem e_bfx {b : Bf} (hA : evEs F As en h = .exc X h1) : evE F (.bf b As) en h = .exc X h1 := by rw [evE, hA]; rfl
theorem e_tupx (hA : evEs F As en h = .exc X h1) : evE F (.tup As) en h = .exc X h1 := by rw [evE, hA]; rfl
theorem e_mkx {c f : Nat} (hA : evEs F As en h = .ok ds h1) (hf : F.fn f (.obj h1.length :: ds) (h1 ++ [.ins c []]) = .exc X h2) : evE F (.mk c f As) en h = .exc X h2 := by
  rw [evE, hA]; simp only [Out.bind_ok]; rw [hf]; rfl
theorem s_exprx (hA : evE F A en h = .exc X h1) : evS F (.expr A) en h = .ex X en h1 := by rw [evS, hA]; rfl
theorem s_asgx {i : Nat} (hA : evE F A en h = .exc X h1) : evS F (.asg i A) en h = .ex X en h1 := by rw [evS, hA]; rfl
theorem s_parx {is : List Nat} (hA : evEs F As en h = .exc X h1) : evS F (.par is As) en h = .ex X en h1 := by rw [evS, hA]; rfl
theorem s_retx (hA : evE F A en h = .exc X h1) : evS F (.ret A) en h = .ex X en h1 := by rw [evS, hA]; rfl
theorem ss_x (hs : evS F s en h = .ex X en1 h1) : evSs F (.cons s ss) en h = .ex X en1 h1 := by rw [evSs, hs]; rfl
end
/-- a line that is not of the form -/
abbrev BL (l k : Int) : Xc := ⟨c_BadLine, [("line", .int l), ("word", .int k)]⟩
theorem mk_BL {m : Nat} {l k : Int} (hl : l.natAbs < 2 ^ 63) (hk : k.natAbs < 2 ^ 63) : mkX (AT m) c_BadLine [.int l, .int k] = some (BL l k) := by
  show (match (cfg.p.at_ m).xc[c_BadLine]? with
    | some ns => if ns.length = ([.int l, .int k] : List D).length ∧ ([.int l, .int k] : List D).all xargD = true then some (Xc.mk c_BadLine (ns.zip [.int l, .int k])) else none
    | none => none) = _
  rw [PrI.xc_at]
  have e : cfg.p.xc[c_BadLine]? = some [("line" : Str), "word"] := by rfl
  rw [e]; simp only
  rw [if_pos ⟨rfl, by
    show ((decide (l.natAbs < 2 ^ 63)) && ((decide (k.natAbs < 2 ^ 63)) && true)) = true
    rw [decide_eq_true hl, decide_eq_true hk]; rfl⟩]
  rfl
/-! words as data -/
def wsD (ws : List (List Nat)) : List D := ws.map fun w => .str (SX.S w)
def WL (ws : List (List Nat)) : Prop := ∀ w ∈ ws, w ≠ [] ∧ ∀ c ∈ w, c < 128
theorem ws_flat : ∀ L : List (List Nat), (wsD L).all flatD = true
  | [] => rfl
  | _ :: L => ws_flat L
theorem ws_any (w : List Nat) : ∀ L : List (List Nat), ((wsD L).any fun z => eqF z (.str (SX.S w))) = decide (w ∈ L)
  | [] => rfl
  | p :: L => by
    show (eqF (.str (SX.S p)) (.str (SX.S w)) || (wsD L).any fun z => eqF z (.str (SX.S w))) = _
    rw [ws_any w L]
    show ((SX.S p == SX.S w) || decide (w ∈ L)) = _
    rw [SX.S_beq_eq]
    by_cases e : p = w
    · subst e; simp
    · have e2 : ¬ w = p := fun z => e z.symm
      by_cases hm : w ∈ L
      · simp [hm]
      · simp [hm, e, e2]
theorem nin_val {w : List Nat} {L : List (List Nat)} {Sd : D} {h : List O} (hS : itemsOf Sd h = some (wsD L)) : cmpI .nin (.str (SX.S w)) Sd h = some (!decide (w ∈ L)) := by
  show (inI (.str (SX.S w)) Sd h).map (fun b => !b) = _
  unfold inI
  simp only [hS]
  rw [if_pos (show (flatD (.str (SX.S w)) && (wsD L).all flatD) = true by rw [ws_flat]; rfl), ws_any]; rfl
theorem in_val {w : List Nat} {L : List (List Nat)} {Sd : D} {h : List O} (hS : itemsOf Sd h = some (wsD L)) : cmpI .inn (.str (SX.S w)) Sd h = some (decide (w ∈ L)) := by
  show inI (.str (SX.S w)) Sd h = _
  unfold inI
  simp only [hS]
  rw [if_pos (show (flatD (.str (SX.S w)) && (wsD L).all flatD) = true by rw [ws_flat]; rfl), ws_any]
theorem S_ne {w : List Nat} (hw : w ≠ []) : ¬ SX.S w = ("" : Str) := fun e => by
  have h1 := congrArg (fun x : Str => x.cps.toList) e
  have h2 : w = (("" : Str).cps.toList) := h1
  rw [show ("" : Str).cps.toList = [] by decide +kernel] at h2
  exact hw h2
theorem eq_empty {w : List Nat} {h : List O} (hw : w ≠ []) (hc : ∀ c ∈ w, c < 128) : cmpI .eq (.str (SX.S w)) (.str "") h = some false := by
  rw [cmpI, eqI_str (ok_S hc) (by decide +kernel), decide_eq_false (S_ne hw)]
theorem eq_lit {w p : List Nat} {x : Str} {h : List O} (hx : x = SX.S p) (hc : ∀ c ∈ w, c < 128) (hp : ∀ c ∈ p, c < 128) : cmpI .eq (.str (SX.S w)) (.str x) h = some (decide (w = p)) := by
  subst hx
  rw [cmpI, eqI_str (ok_S hc) (ok_S hp)]
  have : decide (SX.S w = SX.S p) = decide (w = p) := by
    rw [decide_eq_decide]
    exact ⟨SX.S_inj, fun e => by rw [e]⟩
  rw [this]
theorem wsD_at {ws : List (List Nat)} {i : Nat} {w : List Nat} (e : ws[i]? = some w) : (wsD ws)[i]? = some (.str (SX.S w)) := by
  unfold wsD
  rw [List.getElem?_map, e]; rfl
theorem wsD_len (ws : List (List Nat)) : (wsD ws).length = ws.length := by unfold wsD; rw [List.length_map]
section
variable {m u q i c : Nat} {ws L : List (List Nat)} {h0 h : List O} {w : List Nat} {Sd : D}
theorem li_at {F : Fns} {en : En} {at_ spot : Int} (hu : h[u]? = some (linO q at_ spot)) (he : en[0]? = some (some (.obj u))) : evE F (.fldC c_Line (.var 0) "at_line") en h = .ok (.int at_) h := e_fldC (ev_var he) (by simp only [fldCI, hu, linO]; rfl)
theorem one_yes (x : LnS u q (c : Nat) (wsD ws) i h0 h) (hW : WL ws) (hS : itemsOf Sd h = some (wsD L)) (hi : ws[i]? = some w) (hm : w ∈ L) : (AT (m + 1)).fn i_Line_one_of [.obj u, Sd] h = .ok (.str (SX.S w)) (h.set u (linO q (c : Nat) (i + 1 : Nat))) := by
  obtain ⟨w0, w1⟩ := hW w (List.mem_of_getElem? hi)
  refine one_of_ok x.hu x.hq (wsD_at hi) (eq_empty w0 w1) ?_
  rw [nin_val hS, decide_eq_true hm]; rfl
/-- what is raised -/
theorem bad_raise {F : Fns} {m : Nat} {en : En} {ss : Ss} (x : LnS u q (c : Nat) (wsD ws) i h0 h) (he : en[0]? = some (some (.obj u))) (hc : c ≤ 1000) (hi : i ≤ 1000) : evSs (AT m) (.cons (.raise c_BadLine (.cons (.fldC c_Line (.var 0) "at_line") (.cons (.bin .add (.fldC c_Line (.var 0) "spot") (.cst (.int 1))) .nil))) ss) en h = .ex (BL (c : Nat) ((i + 1 : Nat) : Int)) en h := by
  have ad : binI .add (.int (i : Nat)) (.int 1) h = .ok (.int ((i + 1 : Nat) : Int)) h := by
    show Out.ok (D.int ((i : Int) + 1)) h = _
    rw [show ((i + 1 : Nat) : Int) = (i : Int) + 1 by omega]
  exact r_raise (es_cons (li_at x.hu he) (es_cons (ev_bin (li_spot x.hu he) ev_cst ad) es_nil)) (mk_BL (by omega) (by omega))
theorem one_no (x : LnS u q (c : Nat) (wsD ws) i h0 h) (hW : WL ws) (hS : itemsOf Sd h = some (wsD L)) (hno : ∀ w, ws[i]? = some w → w ∉ L) (hc : c ≤ 1000) (hi : i ≤ 1000) : (AT (m + 1)).fn i_Line_one_of [.obj u, Sd] h = .exc (BL (c : Nat) ((i + 1 : Nat) : Int)) h := by
  have lw := wsD_len ws
  have x0 : (linO q (c : Nat) (i : Nat)) = linO q (c : Nat) (i : Nat) := rfl
  cases e : ws[i]? with
  | none =>
    have hl : ws.length ≤ i := List.getElem?_eq_none_iff.mp e
    let E : En := [some (.obj u), some Sd, some (.str "")]
    refine fn_ex (en := E) (b := B_Line_one_of) rfl rfl ?_
    refine ss_nx (en1 := E) (h1 := h) (s_asg (e_ite (b := false) (ev_cmp (li_spot x.hu rfl) (li_len x.hu x.hq rfl) (cmp_lt_f (by rw [lw]; omega))) rfl ev_cst)) ?_
    refine ss_x (s_ite (b := true) (evT_bl (e_or (b := true) (ev_cmp (ev_var rfl) ev_cst (cmp_eq_st (by decide +kernel))) rfl ev_cst)) ?_)
    rw [if_pos rfl]
    exact bad_raise (F := AT m) x rfl hc hi
  | some w =>
    have hl : i < ws.length := (List.getElem?_eq_some_iff.mp e).1
    obtain ⟨w0, w1⟩ := hW w (List.mem_of_getElem? e)
    let E : En := [some (.obj u), some Sd, some (.str (SX.S w))]
    refine fn_ex (en := E) (b := B_Line_one_of) rfl rfl ?_
    have hq := x.hq
    refine ss_nx (en1 := E) (h1 := h) (s_asg (e_ite (b := true) (ev_cmp (li_spot x.hu rfl) (li_len x.hu x.hq rfl) (cmp_lt_t (by rw [lw]; omega))) rfl (ev_idx (li_words x.hu rfl) (li_spot x.hu rfl) (by simp only [idxI, itemsOf, hq]; exact atI_nat (wsD_at e))))) ?_
    refine ss_x (s_ite (b := true) (evT_bl (e_or (b := false) (ev_cmp (ev_var rfl) ev_cst (eq_empty w0 w1)) rfl (ev_cmp (ev_var rfl) (ev_var rfl) (c := true) (by rw [nin_val hS, decide_eq_false (hno w e)]; rfl)))) ?_)
    rw [if_pos rfl]
    exact bad_raise (F := AT m) x rfl hc hi
theorem fin_no (x : LnS u q (c : Nat) (wsD ws) i h0 h) (hl : i < ws.length) (hc : c ≤ 1000) (hi : i ≤ 1000) : (AT (m + 1)).fn i_Line_finish [.obj u] h = .exc (BL (c : Nat) ((i + 1 : Nat) : Int)) h := by
  have lw := wsD_len ws
  refine fn_ex (en := [some (.obj u)]) (b := B_Line_finish) rfl rfl ?_
  refine ss_x (s_ite (b := true) (evT_bl (ev_cmp (li_spot x.hu rfl) (li_len x.hu x.hq rfl) (cmp_lt_t (by rw [lw]; omega)))) ?_)
  rw [if_pos rfl]
  exact bad_raise (F := AT m) x rfl hc hi
theorem fin_yes (x : LnS u q (c : Nat) (wsD ws) i h0 h) (hl : i = ws.length) : (AT (m + 1)).fn i_Line_finish [.obj u] h = .ok .non h := by
  subst hl
  have lw := wsD_len ws
  have hu := x.hu
  rw [← lw] at hu
  exact finish_ok hu x.hq
end
end Law_k11

set_option Elab.async false
set_option linter.all false
set_option maxRecDepth 100000
set_option maxHeartbeats 4000000
/-! TxO: plainly: which word of a line cannot stand there. -/
namespace Law_k11
open PySem PySem.Spec PyProof.Rows L2 Mi TL
abbrev Wd := List Nat
def firstAt (ws : List Wd) : Nat → List (List Wd) → Nat
  | i, [] => if i < ws.length then i + 1 else 0
  | i, L :: ls => match ws[i]? with
    | some w => if w ∈ L then firstAt ws (i + 1) ls else i + 1
    | none => i + 1
section
variable {ws : List Wd} {i : Nat} {L : List Wd} {ls : List (List Wd)} {w : Wd}
theorem fa_yes (hi : ws[i]? = some w) (hm : w ∈ L) : firstAt ws i (L :: ls) = firstAt ws (i + 1) ls := by
  rw [firstAt, hi]; simp only; rw [if_pos hm]
theorem fa_no (hno : ∀ w, ws[i]? = some w → w ∉ L) : firstAt ws i (L :: ls) = i + 1 := by
  rw [firstAt]
  cases e : ws[i]? with
  | none => rfl
  | some w => simp only; rw [if_neg (hno w e)]
theorem fa_end : firstAt ws i [] = if i < ws.length then i + 1 else 0 := by rw [firstAt]
theorem st_dec (ws : List Wd) (i : Nat) (L : List Wd) : (∃ w, ws[i]? = some w ∧ w ∈ L) ∨ (∀ w, ws[i]? = some w → w ∉ L) := by
  cases e : ws[i]? with
  | none => exact .inr (fun w h => by cases h)
  | some w =>
    by_cases hm : w ∈ L
    · exact .inl ⟨w, rfl, hm⟩
    · exact .inr (fun v h => by cases h; exact hm)
end
def nums (lo n : Nat) : List Wd := (List.range n).map fun k => numL (lo + k)
theorem nums_D (lo n : Nat) : wsD (nums lo n) = (List.range n).map fun k => D.str (numS (lo + k)) := by
  unfold wsD nums
  rw [List.map_map]
  refine List.map_congr_left fun k _ => ?_
  show D.str (SX.S (numL (lo + k))) = _
  rw [numS_S]
theorem mem_nums {lo n : Nat} {w : Wd} : w ∈ nums lo n ↔ ∃ j, lo ≤ j ∧ j < lo + n ∧ w = numL j := by
  unfold nums
  rw [List.mem_map]
  constructor
  · rintro ⟨k, hk, rfl⟩
    have := List.mem_range.mp hk
    exact ⟨lo + k, by omega, by omega, rfl⟩
  · rintro ⟨j, h1, h2, rfl⟩
    exact ⟨j - lo, List.mem_range.mpr (by omega), by rw [show lo + (j - lo) = j by omega]⟩
def sale1 : List Wd := [cds "sale"]
def getsL : List Wd := [cds "other", cds "house"]
def tiesL : List Wd := [cds "one", cds "other"]
def lists1 : List (List Wd) := [sale1, getsL, tiesL]
def wish1 : List Wd := [cds "wish"]
def kindsL : List Wd := [cds "least", cds "half", cds "last", cds "row"]
/-- the number that a word tells -/
def valW (w : Wd) : Nat := ((List.range 5).find? fun j => decide (numL j = w)).getD 0
theorem valW_num {a : Nat} (h : a ≤ 4) : valW (numL a) = a := by
  have z : ∀ a : Nat, a ≤ 4 → valW (numL a) = a := by decide +kernel
  exact z a h
def wAt (ws : List Wd) (i : Nat) : Wd := (ws[i]?).getD []
def moreL (ws : List Wd) : List (List Wd) :=
  if wAt ws 1 = cds "least" then [nums 0 301] else if wAt ws 1 = cds "row" then [nums 1 4, if wAt ws 2 ∈ nums 1 4 then nums 0 (valW (wAt ws 2)) else []] else []
def lists2 (ws : List Wd) : List (List Wd) := wish1 :: kindsL :: moreL ws
theorem wAt_of {ws : List Wd} {i : Nat} {w : Wd} (h : ws[i]? = some w) : wAt ws i = w := by unfold wAt; rw [h]; rfl
theorem kw_ne1 : cds "row" ≠ cds "least" := by decide +kernel
theorem kw_ne2 : cds "half" ≠ cds "least" := by decide +kernel
theorem kw_ne3 : cds "half" ≠ cds "row" := by decide +kernel
theorem kw_ne4 : cds "last" ≠ cds "least" := by decide +kernel
theorem kw_ne5 : cds "last" ≠ cds "row" := by decide +kernel
theorem list2_eq {ws : List Wd} {a b : Wd} (h0 : ws[0]? = some a) (h1 : ws[1]? = some b) (hl : ws.length ≤ 2) : ws = [a, b] := by
  refine List.ext_getElem? fun k => ?_
  match k with
  | 0 => exact h0
  | 1 => exact h1
  | k + 2 => rw [List.getElem?_eq_none (by omega), List.getElem?_eq_none (by simp)]
theorem list3_eq {ws : List Wd} {a b c : Wd} (h0 : ws[0]? = some a) (h1 : ws[1]? = some b) (h2 : ws[2]? = some c) (hl : ws.length ≤ 3) : ws = [a, b, c] := by
  refine List.ext_getElem? fun k => ?_
  match k with
  | 0 => exact h0
  | 1 => exact h1
  | 2 => exact h2
  | k + 3 => rw [List.getElem?_eq_none (by omega), List.getElem?_eq_none (by simp)]
theorem list4_eq {ws : List Wd} {a b c d : Wd} (h0 : ws[0]? = some a) (h1 : ws[1]? = some b) (h2 : ws[2]? = some c) (h3 : ws[3]? = some d) (hl : ws.length ≤ 4) : ws = [a, b, c, d] := by
  refine List.ext_getElem? fun k => ?_
  match k with
  | 0 => exact h0
  | 1 => exact h1
  | 2 => exact h2
  | 3 => exact h3
  | k + 4 => rw [List.getElem?_eq_none (by omega), List.getElem?_eq_none (by simp)]
/-- what is told of a text's lines -/
inductive RR where
  | bad (l k : Nat) | ok (g t : Bool) (w : Ws)
def Ws.fit (w : Ws) : Prop := w.ok ∧ ∀ j, w = .L j → j ≤ 300
inductive Due : List (List Wd) → RR → Prop where
  | c1 {r0 rs k} (h : firstAt r0 0 lists1 = k + 1) : Due (r0 :: rs) (.bad 1 (k + 1))
  | c2 {r0} (h : firstAt r0 0 lists1 = 0) : Due [r0] (.bad 2 1)
  | c3 {r0 r1 rs k} (h : firstAt r0 0 lists1 = 0) (h2 : firstAt r1 0 (lists2 r1) = k + 1) : Due (r0 :: r1 :: rs) (.bad 2 (k + 1))
  | c4 {r0 r1 r2 rs} (h : firstAt r0 0 lists1 = 0) (h2 : firstAt r1 0 (lists2 r1) = 0) : Due (r0 :: r1 :: r2 :: rs) (.bad 3 1)
  | c5 {g t w} (h : firstAt (saleC g t) 0 lists1 = 0) (h2 : firstAt (wishC w) 0 (lists2 (wishC w)) = 0) (hw : w.fit) : Due [saleC g t, wishC w] (.ok g t w)
end Law_k11

set_option Elab.async false
set_option linter.all false
set_option maxRecDepth 100000
set_option maxHeartbeats 4000000
/-! TxP: a line's words and numbers, read or refused; the wish of any line. -/
namespace Law_k11
open PySem PySem.Spec PyProof.Rows L2 Mi TL
section
variable {m u q i c v lo hi : Nat} {ws L : List Wd} {h0 h h1 : List O} {w : Wd} {Sd : D} {en : En} {A : E} {es : Es}
theorem m_yes (x : LnS u q (c : Nat) (wsD ws) i h0 h) (he : en[v]? = some (some (.obj u))) (hW : WL ws) (hA : evE (AT (m + 1)) A en h = .ok Sd h1) (x1 : LnS u q (c : Nat) (wsD ws) i h0 h1) (hS : itemsOf Sd h1 = some (wsD L)) (hi : ws[i]? = some w) (hm : w ∈ L) :
    ∃ h', evE (AT (m + 1)) (.meth c_Line "one_of" i_Line_one_of (.var v) (.cons A .nil)) en h = .ok (.str (SX.S w)) h' ∧ LnS u q (c : Nat) (wsD ws) (i + 1) h0 h' :=
  ⟨_, ev_methO (ev_var he) x.hu rfl (es_cons hA es_nil) (one_yes x1 hW hS hi hm), x1.step⟩
theorem m_no (x : LnS u q (c : Nat) (wsD ws) i h0 h) (he : en[v]? = some (some (.obj u))) (hW : WL ws) (hA : evE (AT (m + 1)) A en h = .ok Sd h1) (x1 : LnS u q (c : Nat) (wsD ws) i h0 h1) (hS : itemsOf Sd h1 = some (wsD L)) (hno : ∀ w, ws[i]? = some w → w ∉ L) (hc : c ≤ 1000) (hi : i ≤ 1000) :
    evE (AT (m + 1)) (.meth c_Line "one_of" i_Line_one_of (.var v) (.cons A .nil)) en h = .exc (BL (c : Nat) ((i + 1 : Nat) : Int)) h1 :=
  ev_methO (ev_var he) x.hu rfl (es_cons hA es_nil) (one_no x1 hW hS hno hc hi)
theorem l_yes (x : LnS u q (c : Nat) (wsD ws) i h0 h) (he : en[v]? = some (some (.obj u))) (hW : WL ws) (hE : evEs (AT (m + 1)) es en h = .ok (wsD L) h) (hl : L.length ≤ 100) (hi : ws[i]? = some w) (hm : w ∈ L) :
    ∃ h', evE (AT (m + 1)) (.meth c_Line "one_of" i_Line_one_of (.var v) (.cons (.lst es) .nil)) en h = .ok (.str (SX.S w)) h' ∧ LnS u q (c : Nat) (wsD ws) (i + 1) h0 h' :=
  m_yes x he hW (e_lst hE (by rw [wsD_len]; unfold LIM; omega)) (x.new _) (by simp [itemsOf]) hi hm
theorem l_no (x : LnS u q (c : Nat) (wsD ws) i h0 h) (he : en[v]? = some (some (.obj u))) (hW : WL ws) (hE : evEs (AT (m + 1)) es en h = .ok (wsD L) h) (hl : L.length ≤ 100) (hno : ∀ w, ws[i]? = some w → w ∉ L) (hc : c ≤ 1000) (hi : i ≤ 1000) :
    ∃ h', evE (AT (m + 1)) (.meth c_Line "one_of" i_Line_one_of (.var v) (.cons (.lst es) .nil)) en h = .exc (BL (c : Nat) ((i + 1 : Nat) : Int)) h' :=
  ⟨_, m_no x he hW (e_lst hE (by rw [wsD_len]; unfold LIM; omega)) (x.new _) (by simp [itemsOf]) hno hc hi⟩
theorem t_yes (x : LnS u q (c : Nat) (wsD ws) i h0 h) (he : en[v]? = some (some (.obj u))) (hW : WL ws) (hA : evE (AT (m + 1)) A en h = .ok (.tup (wsD L)) h) (hi : ws[i]? = some w) (hm : w ∈ L) :
    ∃ h', evE (AT (m + 1)) (.meth c_Line "one_of" i_Line_one_of (.var v) (.cons A .nil)) en h = .ok (.str (SX.S w)) h' ∧ LnS u q (c : Nat) (wsD ws) (i + 1) h0 h' :=
  m_yes x he hW hA x rfl hi hm
theorem t_no (x : LnS u q (c : Nat) (wsD ws) i h0 h) (he : en[v]? = some (some (.obj u))) (hW : WL ws) (hA : evE (AT (m + 1)) A en h = .ok (.tup (wsD L)) h) (hno : ∀ w, ws[i]? = some w → w ∉ L) (hc : c ≤ 1000) (hi : i ≤ 1000) :
    evE (AT (m + 1)) (.meth c_Line "one_of" i_Line_one_of (.var v) (.cons A .nil)) en h = .exc (BL (c : Nat) ((i + 1 : Nat) : Int)) h :=
  m_no x he hW hA x rfl hno hc hi
theorem n_yes {j : Nat} (x : LnS u q (c : Nat) (wsD ws) i h0 h) (he : en[0]? = some (some (.obj u))) (hi' : ws[i]? = some (numL j)) (hE : evEs (AT (m + 2)) es en h = .ok [.int (lo : Nat), .int (hi : Nat)] h) (h1 : lo ≤ j) (h2 : j ≤ hi) (h3 : hi ≤ 900) :
    ∃ h', evE (AT (m + 2)) (.meth c_Line "number" i_Line_number (.var 0) es) en h = .ok (.int (j : Nat)) h' ∧ LnS u q (c : Nat) (wsD ws) (i + 1) h0 h' :=
  m_num x he (by rw [numS_S]; exact wsD_at hi') hE h1 h2 h3
theorem n_no (x : LnS u q (c : Nat) (wsD ws) i h0 h) (he : en[0]? = some (some (.obj u))) (hW : WL ws) (hE : evEs (AT (m + 2)) es en h = .ok [.int (lo : Nat), .int (hi : Nat)] h) (h1 : lo ≤ hi + 1) (h3 : hi ≤ 900) (hno : ∀ w, ws[i]? = some w → w ∉ nums lo (hi + 1 - lo)) (hc : c ≤ 1000) (hii : i ≤ 1000) :
    ∃ h', evE (AT (m + 2)) (.meth c_Line "number" i_Line_number (.var 0) es) en h = .exc (BL (c : Nat) ((i + 1 : Nat) : Int)) h' := by
  have cm := nums_ev (F := AT (m + 1)) (u := u) (h := h) (lo := lo) (hi := hi) h1 h3
  rw [numD', ← nums_D] at cm
  have y := x.new (.lst (wsD (nums lo (hi + 1 - lo))))
  have o := one_no (m := m) (Sd := .obj h.length) (L := nums lo (hi + 1 - lo)) y hW (by simp [itemsOf]) hno hc hii
  refine ⟨_, ev_methO (ev_var he) x.hu rfl hE (fn_ex (m := m + 1) (b := B_Line_number) rfl rfl (ss_x (s_retx (e_bfx (es_x1 (ev_methO (ev_var rfl) x.hu rfl (es_cons cm es_nil) o))))))⟩
end
theorem lit1 (x : Str) : wsD [cds x] = [.str x] := by
  show [D.str (SX.S (cds x))] = _
  rw [S_cds]
theorem lit2 (x y : Str) : wsD [cds x, cds y] = [.str x, .str y] := by
  show [D.str (SX.S (cds x)), .str (SX.S (cds y))] = _
  rw [S_cds, S_cds]
theorem lit4 (x y z t : Str) : wsD [cds x, cds y, cds z, cds t] = [.str x, .str y, .str z, .str t] := by
  show [D.str (SX.S (cds x)), .str (SX.S (cds y)), .str (SX.S (cds z)), .str (SX.S (cds t))] = _
  rw [S_cds, S_cds, S_cds, S_cds]
def kindsP : List Wd := [cds "half", cds "last", cds "least", cds "row"]
theorem kinds_mem {w : Wd} : w ∈ kindsP ↔ w ∈ kindsL := by
  unfold kindsP kindsL
  simp only [List.mem_cons, List.not_mem_nil, or_false]
  constructor
  · rintro (h | h | h | h)
    · exact .inr (.inl h)
    · exact .inr (.inr (.inl h))
    · exact .inl h
    · exact .inr (.inr (.inr h))
  · rintro (h | h | h | h)
    · exact .inr (.inr (.inl h))
    · exact .inl h
    · exact .inr (.inl h)
    · exact .inr (.inr (.inr h))
theorem in_hl {w : Wd} {h : List O} : cmpI .inn (.str (SX.S w)) (.tup [.str "half", .str "last"]) h = some (decide (w ∈ [cds "half", cds "last"])) := by
  have : itemsOf (.tup [.str "half", .str "last"]) h = some (wsD [cds "half", cds "last"]) := by rw [lit2]; rfl
  exact in_val this
theorem a128 : ∀ c ∈ cds "least", c < 128 := by decide +kernel
theorem eq_least {w : Wd} {h : List O} (hc : ∀ c ∈ w, c < 128) : cmpI .eq (.str (SX.S w)) (.str "least") h = some (decide (w = cds "least")) := eq_lit (S_cds "least").symm hc a128
section
variable {m u q : Nat} {ws : List Wd} {h0 h : List O}
theorem read_wish_gen (x : LnS u q (2 : Nat) (wsD ws) 0 h0 h) (hW : WL ws) :
    (∃ k h', (AT (m + 3)).fn i_read_wish [.obj u] h = .exc (BL (2 : Nat) ((k + 1 : Nat) : Int)) h' ∧ firstAt ws 0 (lists2 ws) = k + 1) ∨
    (∃ w n h', (AT (m + 3)).fn i_read_wish [.obj u] h = .ok w.d h' ∧ LnS u q (2 : Nat) (wsD ws) n h0 h' ∧ w.fit ∧ n ≤ ws.length ∧ n ≤ 4 ∧ firstAt ws 0 (lists2 ws) = (if n < ws.length then n + 1 else 0) ∧ (n = ws.length → ws = wishC w)) := by
  have e0 : evEs (AT (m + 2)) (.cons (.cst (.str "wish")) .nil) [some (.obj u), none, none] h = .ok (wsD wish1) h := by
    unfold wish1; rw [lit1]; exact es_cons ev_cst es_nil
  rcases st_dec ws 0 wish1 with ⟨w0, i0, m0⟩ | no
  case inr =>
    obtain ⟨h', e⟩ := l_no (m := m + 1) (v := 0) (en := [some (.obj u), none, none]) x rfl hW e0 (by decide) no (by decide) (by decide)
    exact .inl ⟨0, h', fn_ex (m := m + 2) (b := B_read_wish) rfl rfl (ss_x (s_exprx e)), fa_no no⟩
  obtain ⟨h1, e1, x1⟩ := l_yes (m := m + 1) (v := 0) (en := [some (.obj u), none, none]) x rfl hW e0 (by decide) i0 m0
  have f0 : firstAt ws 0 (lists2 ws) = firstAt ws 1 (kindsL :: moreL ws) := fa_yes i0 m0
  have w0e : w0 = cds "wish" := by simpa [wish1] using m0
  have ek : evEs (AT (m + 2)) kinds4 [some (.obj u), none, none] h1 = .ok (wsD kindsP) h1 := by
    unfold kindsP; rw [lit4]; exact es_cons gv_HALF (es_cons gv_LAST (es_cons gv_LEAST (es_cons gv_ROW es_nil)))
  rcases st_dec ws 1 kindsL with ⟨w1, i1, m1⟩ | no
  case inr =>
    obtain ⟨h', e⟩ := l_no (m := m + 1) (v := 0) (en := [some (.obj u), none, none]) x1 rfl hW ek (by decide) (fun w hw hm => no w hw (kinds_mem.mp hm)) (by decide) (by decide)
    exact .inl ⟨1, h', fn_ex (m := m + 2) (b := B_read_wish) rfl rfl (ss_nx (s_expr e1) (ss_x (s_asgx e))), by rw [f0]; exact fa_no no⟩
  obtain ⟨h2, e2, x2⟩ := l_yes (m := m + 1) (v := 0) (en := [some (.obj u), none, none]) x1 rfl hW ek (by decide) i1 (kinds_mem.mpr m1)
  have f1 : firstAt ws 0 (lists2 ws) = firstAt ws 2 (moreL ws) := by rw [f0]; exact fa_yes i1 m1
  have a1 := wAt_of i1
  obtain ⟨_, c1⟩ := hW w1 (List.mem_of_getElem? i1)
  have l1 : 1 < ws.length := (List.getElem?_eq_some_iff.mp i1).1
  by_cases hl : w1 ∈ [cds "half", cds "last"]
  · have mo : moreL ws = [] := by
      unfold moreL
      rw [a1]
      rcases List.mem_cons.mp hl with rfl | hl
      · rw [if_neg kw_ne2, if_neg kw_ne3]
      · have : w1 = cds "last" := by simpa using hl
        subst this
        rw [if_neg kw_ne4, if_neg kw_ne5]
    rw [mo, fa_end] at f1
    obtain ⟨w, wd, wf, wc⟩ : ∃ w : Ws, w.d = .tup [.str (SX.S w1)] ∧ w.fit ∧ wishC w = [cds "wish", w1] := by
      rcases List.mem_cons.mp hl with rfl | hl
      · exact ⟨.H, by show D.tup [.str "half"] = _; rw [S_cds], ⟨trivial, fun j z => by cases z⟩, rfl⟩
      · have : w1 = cds "last" := by simpa using hl
        subst this
        exact ⟨.T, by show D.tup [.str "last"] = _; rw [S_cds], ⟨trivial, fun j z => by cases z⟩, rfl⟩
    refine .inr ⟨w, 2, h2, ?_, x2, wf, by omega, by decide, f1, fun z => ?_⟩
    · rw [wd]
      exact fn_rt (m := m + 2) (b := B_read_wish) rfl rfl (ss_nx (s_expr e1) (ss_nx (s_asg e2) (ss_rt (s_ite (b := true) (evT_bl (ev_cmp (ev_var rfl) tup_hl (by rw [in_hl, decide_eq_true hl]))) (by rw [if_pos rfl]; exact ss_rt (s_ret (e_tup (es_cons (ev_var rfl) es_nil) (lim3 rfl))))))))
    · rw [wc, ← w0e]; exact list2_eq i0 i1 (by omega)
  have t2 : ∀ {ss : Ss} {o : OS}, evSs (AT (m + 2)) ss [some (.obj u), some (.str (SX.S w1)), none] h2 = o → evSs (AT (m + 2)) (.cons (nthS 2 B_read_wish) ss) [some (.obj u), some (.str (SX.S w1)), none] h2 = o := fun e =>
    ss_nx (retN (ev_cmp (ev_var rfl) tup_hl (by rw [in_hl, decide_eq_false hl])) rfl) e
  by_cases le : w1 = cds "least"
  · have mo : moreL ws = [nums 0 301] := by
      unfold moreL
      rw [a1, if_pos le]
    rw [mo] at f1
    have dl : ∀ h, cmpI .eq (.str (SX.S w1)) (.str "least") h = some true := fun h => by rw [eq_least c1, decide_eq_true le]
    rcases st_dec ws 2 (nums 0 301) with ⟨w2, i2, m2⟩ | no
    case inr =>
      obtain ⟨h', e⟩ := n_no (m := m) (lo := 0) (hi := 300) (en := [some (.obj u), some (.str (SX.S w1)), none]) (es := .cons (.cst (.int 0)) (.cons (.glob g_MOST_WANTED) .nil)) x2 rfl hW (es_cons ev_cst (es_cons gv_MOST_WANTED es_nil)) (by decide) (by decide) no (by decide) (by decide)
      exact .inl ⟨2, h', fn_ex (m := m + 2) (b := B_read_wish) rfl rfl (ss_nx (s_expr e1) (ss_nx (s_asg e2) (t2 (ss_x (s_ite (b := true) (evT_bl (ev_cmp (ev_var rfl) gv_LEAST (dl _))) (by rw [if_pos rfl]; exact ss_x (s_retx (e_tupx (es_x2 (ev_var rfl) (es_x1 e)))))))))), by rw [f1]; exact fa_no no⟩
    obtain ⟨j, j0, j1, rfl⟩ := mem_nums.mp m2
    obtain ⟨h3, e3, x3⟩ := n_yes (m := m) (lo := 0) (hi := 300) (en := [some (.obj u), some (.str (SX.S w1)), none]) (es := .cons (.cst (.int 0)) (.cons (.glob g_MOST_WANTED) .nil)) x2 rfl i2 (es_cons ev_cst (es_cons gv_MOST_WANTED es_nil)) (by omega) (by omega) (by decide)
    have l2 : 2 < ws.length := (List.getElem?_eq_some_iff.mp i2).1
    have wd : (Ws.L j).d = .tup [.str (SX.S w1), .int (j : Nat)] := by
      subst le
      show D.tup [.str "least", .int (j : Nat)] = _
      rw [S_cds]
    refine .inr ⟨.L j, 3, h3, ?_, x3, ⟨trivial, fun i z => by cases z; omega⟩, by omega, by decide, by rw [f1, fa_yes i2 m2, fa_end], fun z => ?_⟩
    · rw [wd]
      exact fn_rt (m := m + 2) (b := B_read_wish) rfl rfl (ss_nx (s_expr e1) (ss_nx (s_asg e2) (t2 (ss_rt (s_ite (b := true) (evT_bl (ev_cmp (ev_var rfl) gv_LEAST (dl _))) (by rw [if_pos rfl]; exact ss_rt (s_ret (e_tup (es_cons (ev_var rfl) (es_cons e3 es_nil)) (lim3 rfl)))))))))
    · show ws = [cds "wish", cds "least", numL j]
      rw [← w0e, ← le]; exact list3_eq i0 i1 i2 (by omega)
  have ro : w1 = cds "row" := by
    unfold kindsL at m1
    simp only [List.mem_cons, List.not_mem_nil, or_false] at m1 hl
    rcases m1 with z | z | z | z
    · exact absurd z le
    · exact absurd (.inl z) hl
    · exact absurd (.inr z) hl
    · exact z
  have t3 : ∀ {ss : Ss} {o : OS}, evSs (AT (m + 2)) ss [some (.obj u), some (.str (SX.S w1)), none] h2 = o → evSs (AT (m + 2)) (.cons (nthS 3 B_read_wish) ss) [some (.obj u), some (.str (SX.S w1)), none] h2 = o := fun e =>
    ss_nx (retN (ev_cmp (ev_var rfl) gv_LEAST (by rw [eq_least c1, decide_eq_false le])) rfl) e
  have mo : moreL ws = [nums 1 4, if wAt ws 2 ∈ nums 1 4 then nums 0 (valW (wAt ws 2)) else []] := by
    unfold moreL
    rw [a1, if_neg le, if_pos ro]
  rw [mo] at f1
  rcases st_dec ws 2 (nums 1 4) with ⟨w2, i2, m2⟩ | no
  case inr =>
    obtain ⟨h', e⟩ := n_no (m := m) (lo := 1) (hi := 4) (en := [some (.obj u), some (.str (SX.S w1)), none]) (es := .cons (.cst (.int 1)) (.cons (.glob g_MOST_ROW) .nil)) x2 rfl hW (es_cons ev_cst (es_cons gv_MOST_ROW es_nil)) (by decide) (by decide) no (by decide) (by decide)
    exact .inl ⟨2, h', fn_ex (m := m + 2) (b := B_read_wish) rfl rfl (ss_nx (s_expr e1) (ss_nx (s_asg e2) (t2 (t3 (ss_x (s_asgx e)))))), by rw [f1]; exact fa_no no⟩
  have a2 := wAt_of i2
  rw [a2, if_pos m2, fa_yes i2 m2] at f1
  obtain ⟨a, j0, j1, rfl⟩ := mem_nums.mp m2
  rw [valW_num (show a ≤ 4 by omega)] at f1
  obtain ⟨h3, e3, x3⟩ := n_yes (m := m) (lo := 1) (hi := 4) (en := [some (.obj u), some (.str (SX.S w1)), none]) (es := .cons (.cst (.int 1)) (.cons (.glob g_MOST_ROW) .nil)) x2 rfl i2 (es_cons ev_cst (es_cons gv_MOST_ROW es_nil)) (by omega) (by omega) (by decide)
  have sb : ∀ h3, binI .sub (.int (a : Nat)) (.int 1) h3 = .ok (.int ((a - 1 : Nat) : Int)) h3 := fun h3 => by
    show Out.ok (D.int ((a : Int) - 1)) h3 = _
    rw [show ((a - 1 : Nat) : Int) = (a : Int) - 1 by omega]
  have ea : a - 1 + 1 - 0 = a := by omega
  rcases st_dec ws 3 (nums 0 a) with ⟨w3, i3, m3⟩ | no
  case inr =>
    obtain ⟨h', e⟩ := n_no (m := m) (lo := 0) (hi := a - 1) (en := [some (.obj u), some (.str (SX.S w1)), some (.int (a : Nat))]) (es := .cons (.cst (.int 0)) (.cons (.bin .sub (.var 2) (.cst (.int 1))) .nil)) x3 rfl hW (es_cons ev_cst (es_cons (ev_bin (ev_var rfl) ev_cst (sb _)) es_nil)) (by omega) (by omega) (by rw [ea]; exact no) (by decide) (by decide)
    exact .inl ⟨3, h', fn_ex (m := m + 2) (b := B_read_wish) rfl rfl (ss_nx (s_expr e1) (ss_nx (s_asg e2) (t2 (t3 (ss_nx (s_asg e3) (ss_x (s_retx (e_tupx (es_x2 (ev_var rfl) (es_x2 (ev_var rfl) (es_x1 e))))))))))), by rw [f1]; exact fa_no no⟩
  obtain ⟨b, b0, b1, rfl⟩ := mem_nums.mp m3
  obtain ⟨h4, e4, x4⟩ := n_yes (m := m) (lo := 0) (hi := a - 1) (en := [some (.obj u), some (.str (SX.S w1)), some (.int (a : Nat))]) (es := .cons (.cst (.int 0)) (.cons (.bin .sub (.var 2) (.cst (.int 1))) .nil)) x3 rfl i3 (es_cons ev_cst (es_cons (ev_bin (ev_var rfl) ev_cst (sb _)) es_nil)) (by omega) (by omega) (by omega)
  have l3 : 3 < ws.length := (List.getElem?_eq_some_iff.mp i3).1
  have wd : (Ws.R a b).d = .tup [.str (SX.S w1), .int (a : Nat), .int (b : Nat)] := by
    subst ro
    show D.tup [.str "row", .int (a : Nat), .int (b : Nat)] = _
    rw [S_cds]
  have ok : (Ws.R a b).ok := by
    show (a, b) ∈ rowsN
    have ha : a = 1 ∨ a = 2 ∨ a = 3 ∨ a = 4 := by omega
    have hb : b = 0 ∨ b = 1 ∨ b = 2 ∨ b = 3 := by omega
    rcases ha with rfl | rfl | rfl | rfl <;> rcases hb with rfl | rfl | rfl | rfl <;> first | omega | decide
  refine .inr ⟨.R a b, 4, h4, ?_, x4, ⟨ok, fun i z => by cases z⟩, by omega, by decide, by rw [f1, fa_yes i3 m3, fa_end], fun z => ?_⟩
  · rw [wd]
    exact fn_rt (m := m + 2) (b := B_read_wish) rfl rfl (ss_nx (s_expr e1) (ss_nx (s_asg e2) (t2 (t3 (ss_nx (s_asg e3) (ss_rt (s_ret (e_tup (es_cons (ev_var rfl) (es_cons (ev_var rfl) (es_cons e4 es_nil))) (lim3 rfl)))))))))
  · show ws = [cds "wish", cds "row", numL a, numL b]
    rw [← w0e, ← ro]; exact list4_eq i0 i1 i2 i3 (by omega)
end
end Law_k11

set_option Elab.async false
set_option linter.all false
set_option maxRecDepth 100000
set_option maxHeartbeats 4000000
/-! TxQ: any text is read or refused. -/
namespace Law_k11
open PySem PySem.Spec PyProof.Rows L2 Mi TL
theorem wds_WL {a : List Nat} (g : good a) : WL (wds a) := fun w hw => by
  unfold wds at hw
  obtain ⟨h1, h2⟩ := List.mem_filter.mp hw
  refine ⟨fun z => (by subst z; cases h2), fun c hc => (g.1 c (spl_mem _ a (Nat.le_refl _) w h1 c hc)).1⟩
theorem wds_len {a : List Nat} (g : good a) : (wds a).length ≤ 901 := by
  unfold wds
  have h1 := List.length_filter_le (fun w : List Nat => !w.isEmpty) (spl [32] 0 [] a)
  have h2 := spl_len _ a (Nat.le_refl _)
  have := g.2
  omega
abbrev rowsD (as : List (List Nat)) : List D := as.map fun a => .str (SX.S a)
def txtN (as : List (List Nat)) : Str := SX.S (joinL [10] as)
theorem join_lenN {as : List (List Nat)} (g : ∀ a ∈ as, good a) : (joinL [10] as).length ≤ as.length * 901 := join_len as (fun p hp => (g p hp).2)
section
variable {F : Fns} {m r k c : Nat} {as : List (List Nat)} {a : List Nat} {h : List O} {en : En} {A : E}
theorem splitN (ne : as ≠ []) (g : ∀ a ∈ as, good a) (he : en[0]? = some (some (.str (txtN as)))) (hl : as.length ≤ 100) : evE F (.bm .split (.var 0) (.cons (.cst (.str "\n")) .nil)) en h = .ok (.obj h.length) (h ++ [.lst (rowsD as)]) := by
  rw [evE, ev_var he]; simp only [Out.bind_ok]
  have bt : bmT .split (.str (txtN as)) h = true := rfl
  rw [if_pos bt, es_cons ev_cst es_nil]; simp only [Out.bind_ok]
  show (if (("\n" : Str).length == 0) = false ∧ (txtN as).length ≤ LIM then new (.lst ((Txt.split (txtN as) "\n").map .str)) h else .stuck) = _
  have ll := join_lenN g
  rw [if_pos ⟨by decide +kernel, by unfold txtN; rw [SX.S_len]; unfold LIM; omega⟩]
  have e0 : ("\n" : Str) = SX.S [10] := by decide +kernel
  have e : spl [10] 0 [] (joinL [10] as) = as := SX.spl_join ne (fun p hp hc => ((g p hp).1 10 hc).2 rfl)
  have : (Txt.split (txtN as) "\n").map D.str = rowsD as := by
    unfold txtN
    rw [e0, SX.split_S (by simp) (by decide), e, List.map_map]; rfl
  rw [this]; rfl
theorem ln_yes (hr : h[r]? = some (.lst (rowsD as))) (he : en[1]? = some (some (.obj r))) (hA : evE (AT (m + 1)) A en h = .ok (.int (k : Nat)) h) (hk : as[k]? = some a) (g : good a) (hl : as.length ≤ 100) (hc : c = k + 1) : ∃ h', evE (AT (m + 1)) (.mk c_Line i_Line___init__ (.cons (.var 1) (.cons A .nil))) en h = .ok (.obj h.length) h' ∧ LnS h.length (h.length + 2) (c : Nat) (wsD (wds a)) 0 h h' := by
  have z := init_line (m := m) (r := r) (k := k) (a := a) (rows := rowsD as) hr (by rw [List.getElem?_map, hk]; rfl) (fun c hc => (g.1 c hc).1) g.2 (by rw [List.length_map]; omega)
  rw [show ((k : Int) + 1) = ((c : Nat) : Int) by omega] at z
  refine ⟨_, e_mk (ds := [.obj r, .int (k : Nat)]) (es_cons (ev_var he) (es_cons hA es_nil)) z, ⟨by simp, by simp; rfl, by omega, by simp, fun j hj hn => ?_⟩⟩
  rw [List.getElem?_append_left hj]
theorem ln_no (hr : h[r]? = some (.lst (rowsD as))) (he : en[1]? = some (some (.obj r))) (hA : evE (AT (m + 2)) A en h = .ok (.int (k : Nat)) h) (hk : as.length ≤ k) (hl : as.length ≤ 100) (hc : c = as.length + 1) : ∃ h', evE (AT (m + 2)) (.mk c_Line i_Line___init__ (.cons (.var 1) (.cons A .nil))) en h = .exc (BL (c : Nat) ((1 : Nat) : Int)) h' := by
  have lr : r < h.length := (List.getElem?_eq_some_iff.mp hr).1
  have hr0 : (h ++ [O.ins c_Line []])[r]? = some (.lst (rowsD as)) := by rw [List.getElem?_append_left lr]; exact hr
  have ln : evE (AT (m + 1)) (.bf .len (.cons (.var 1) .nil)) [some (.obj h.length), some (.obj r), some (.int (k : Nat)), none] (h ++ [O.ins c_Line []]) = .ok (.int (as.length : Nat)) (h ++ [O.ins c_Line []]) := e_bf (es_cons (ev_var rfl) es_nil) (by simp only [bfI, itemsOf, hr0, List.length_map])
  have ad : binI .add (.int (as.length : Nat)) (.int 1) (h ++ [O.ins c_Line []]) = .ok (.int (c : Nat)) (h ++ [O.ins c_Line []]) := by
    show Out.ok (D.int ((as.length : Int) + 1)) _ = _
    rw [show ((c : Nat) : Int) = (as.length : Int) + 1 by omega]
  refine ⟨h ++ [O.ins c_Line []], e_mkx (ds := [.obj r, .int (k : Nat)]) (es_cons (ev_var he) (es_cons hA es_nil)) (fn_ex (m := m + 1) (en := [some (.obj h.length), some (.obj r), some (.int (k : Nat)), none]) (b := B_Line___init__) rfl rfl (ss_x (s_ite (b := true) (o := .ex (BL (c : Nat) ((1 : Nat) : Int)) [some (.obj h.length), some (.obj r), some (.int (k : Nat)), none] (h ++ [O.ins c_Line []])) (evT_bl (ev_cmp (ev_var rfl) ln (cmp_ge_t (by omega)))) ?_)))⟩
  rw [if_pos rfl]
  exact r_raise (es_cons (ev_bin ln ev_cst ad) (es_cons ev_cst es_nil)) (mk_BL (by omega) (by decide))
end
def RR.out (r : RR) (h : List O) : Out D := match r with
  | .bad l k => .exc (BL (l : Nat) ((k : Nat) : Int)) h
  | .ok g t w => .ok (.tup [.sale (gT g) (tT t), w.d]) h
theorem gets_of {w : Wd} (h : w ∈ getsL) : ∃ g, w = cds (gT g) := by
  unfold getsL at h
  rcases List.mem_cons.mp h with rfl | h
  · exact ⟨true, rfl⟩
  · have : w = cds "house" := by simpa using h
    exact ⟨false, this⟩
theorem ties_of {w : Wd} (h : w ∈ tiesL) : ∃ t, w = cds (tT t) := by
  unfold tiesL at h
  rcases List.mem_cons.mp h with rfl | h
  · exact ⟨true, rfl⟩
  · have : w = cds "other" := by simpa using h
    exact ⟨false, this⟩
def getsP : List Wd := [cds "house", cds "other"]
theorem getsP_mem {w : Wd} : w ∈ getsP ↔ w ∈ getsL := by
  unfold getsP getsL
  simp only [List.mem_cons, List.not_mem_nil, or_false]
  exact ⟨Or.symm, Or.symm⟩
section
variable {m : Nat}
theorem read_gen (as : List (List Nat)) (ne : as ≠ []) (g : ∀ a ∈ as, good a) (hl : as.length ≤ 100) : ∃ r h', Due (as.map wds) r ∧ (AT (m + 4)).fn i_read [.str (txtN as)] [] = r.out h' := by
  obtain ⟨a0, ar, rfl⟩ : ∃ a0 ar, as = a0 :: ar := by
    cases as with
    | nil => exact absurd rfl ne
    | cons a0 ar => exact ⟨a0, ar, rfl⟩
  have g0 := g a0 (by simp)
  let T : D := .str (txtN (a0 :: ar))
  let h0 : List O := [.lst (rowsD (a0 :: ar))]
  have sp : evE (AT (m + 3)) (.bm .split (.var 0) (.cons (.cst (.str "\n")) .nil)) [some T, none, none, none, none, none] [] = .ok (.obj 0) h0 := splitN ne g rfl hl
  obtain ⟨h1, e1, x1⟩ := ln_yes (m := m + 2) (c := 1) (h := h0) (en := [some T, some (.obj 0), none, none, none, none]) (A := .cst (.int 0)) (k := 0) (as := a0 :: ar) rfl rfl ev_cst rfl g0 hl rfl
  have x1 : LnS 1 3 (1 : Nat) (wsD (wds a0)) 0 h0 h1 := x1
  have e1 : evE (AT (m + 3)) (.mk c_Line i_Line___init__ (.cons (.var 1) (.cons (.cst (.int 0)) .nil))) [some T, some (.obj 0), none, none, none, none] h0 = .ok (.obj 1) h1 := e1
  have W0 := wds_WL g0
  have lW0 := wds_len g0
  let E1 : En := [some T, some (.obj 0), some (.obj 1), none, none, none]
  have hd : ∀ {o : OS}, evSs (AT (m + 3)) (.cons (nthS 2 B_read) (.cons (nthS 3 B_read) (.cons (nthS 4 B_read) (.cons (nthS 5 B_read) (.cons (nthS 6 B_read) (.cons (nthS 7 B_read) (.cons (nthS 8 B_read) (.cons (nthS 9 B_read) .nil)))))))) E1 h1 = o → evSs (AT (m + 3)) B_read [some T, none, none, none, none, none] [] = o := fun e =>
    ss_nx (s_asg sp) (ss_nx (s_asg e1) e)
  have es : evEs (AT (m + 3)) (.cons (.cst (.str "sale")) .nil) E1 h1 = .ok (wsD sale1) h1 := by
    unfold sale1; rw [lit1]; exact es_cons ev_cst es_nil
  rcases st_dec (wds a0) 0 sale1 with ⟨w0, i0, m0⟩ | no
  case inr =>
    obtain ⟨h', e⟩ := l_no (m := m + 2) (v := 2) (en := E1) x1 rfl W0 es (by decide) no (by decide) (by decide)
    exact ⟨.bad 1 1, h', .c1 (fa_no no), fn_ex (m := m + 3) (b := B_read) rfl rfl (hd (ss_x (s_exprx e)))⟩
  obtain ⟨h2, e2, x2⟩ := l_yes (m := m + 2) (v := 2) (en := E1) x1 rfl W0 es (by decide) i0 m0
  have f0 : firstAt (wds a0) 0 lists1 = firstAt (wds a0) 1 [getsL, tiesL] := fa_yes i0 m0
  have w0e : w0 = cds "sale" := by simpa [sale1] using m0
  have eg : ∀ h, evE (AT (m + 3)) (.glob g_GETTERS) E1 h = .ok (.tup (wsD getsP)) h := fun h => by
    unfold getsP; rw [lit2]; exact gv_GETTERS
  have et : ∀ h, evE (AT (m + 3)) (.glob g_TIES) E1 h = .ok (.tup (wsD tiesL)) h := fun h => by
    unfold tiesL; rw [lit2]; exact gv_TIES
  rcases st_dec (wds a0) 1 getsL with ⟨w1, i1, m1⟩ | no
  case inr =>
    have e := t_no (m := m + 2) (v := 2) (en := E1) x2 rfl W0 (eg h2) (fun w hw hm => no w hw (getsP_mem.mp hm)) (by decide) (by decide)
    exact ⟨.bad 1 2, h2, .c1 (by rw [f0]; exact fa_no no), fn_ex (m := m + 3) (b := B_read) rfl rfl (hd (ss_nx (s_expr e2) (ss_x (s_parx (es_x1 e)))))⟩
  obtain ⟨h3, e3, x3⟩ := t_yes (m := m + 2) (v := 2) (en := E1) x2 rfl W0 (eg h2) i1 (getsP_mem.mpr m1)
  have f1 : firstAt (wds a0) 0 lists1 = firstAt (wds a0) 2 [tiesL] := by rw [f0]; exact fa_yes i1 m1
  rcases st_dec (wds a0) 2 tiesL with ⟨w2, i2, m2⟩ | no
  case inr =>
    have e := t_no (m := m + 2) (v := 2) (en := E1) x3 rfl W0 (et h3) no (by decide) (by decide)
    exact ⟨.bad 1 3, h3, .c1 (by rw [f1]; exact fa_no no), fn_ex (m := m + 3) (b := B_read) rfl rfl (hd (ss_nx (s_expr e2) (ss_x (s_parx (es_x2 e3 (es_x1 e))))))⟩
  obtain ⟨h4, e4, x4⟩ := t_yes (m := m + 2) (v := 2) (en := E1) x3 rfl W0 (et h3) i2 m2
  have f2 : firstAt (wds a0) 0 lists1 = (if 3 < (wds a0).length then 4 else 0) := by rw [f1, fa_yes i2 m2, fa_end]
  obtain ⟨gg, rfl⟩ := gets_of m1
  obtain ⟨tt, rfl⟩ := ties_of m2
  have l2 : 2 < (wds a0).length := (List.getElem?_eq_some_iff.mp i2).1
  rw [S_cds] at e3 e4
  let E4 : En := [some T, some (.obj 0), some (.obj 1), none, some (.str (gT gg)), some (.str (tT tt))]
  have hd4 : ∀ {o : OS}, evSs (AT (m + 3)) (.cons (nthS 4 B_read) (.cons (nthS 5 B_read) (.cons (nthS 6 B_read) (.cons (nthS 7 B_read) (.cons (nthS 8 B_read) (.cons (nthS 9 B_read) .nil)))))) E4 h4 = o → evSs (AT (m + 3)) B_read [some T, none, none, none, none, none] [] = o := fun e =>
    hd (ss_nx (s_expr e2) (ss_nx (s_par (es_cons e3 (es_cons e4 es_nil)) rfl) e))
  by_cases lo : 3 < (wds a0).length
  · rw [if_pos lo] at f2
    have e := fin_no (m := m + 2) x4 lo (by decide) (by decide)
    exact ⟨.bad 1 4, h4, .c1 f2, fn_ex (m := m + 3) (b := B_read) rfl rfl (hd4 (ss_x (s_exprx (ev_methO (ev_var rfl) x4.hu rfl es_nil e))))⟩
  rw [if_neg lo] at f2
  have r0 : wds a0 = saleC gg tt := by rw [list3_eq i0 i1 i2 (by omega), w0e]; rfl
  have e5 := fin_yes (m := m + 2) x4 (show 0 + 1 + 1 + 1 = (wds a0).length by omega)
  have r4 : h4[0]? = some (.lst (rowsD (a0 :: ar))) := x4.same 0 (show 0 < 1 by decide) (by decide)
  have hd5 : ∀ {o : OS}, evSs (AT (m + 3)) (.cons (nthS 5 B_read) (.cons (nthS 6 B_read) (.cons (nthS 7 B_read) (.cons (nthS 8 B_read) (.cons (nthS 9 B_read) .nil))))) E4 h4 = o → evSs (AT (m + 3)) B_read [some T, none, none, none, none, none] [] = o := fun e =>
    hd4 (ss_nx (s_expr (ev_methO (ev_var rfl) x4.hu rfl es_nil e5)) e)
  cases ar with
  | nil =>
    obtain ⟨h', e⟩ := ln_no (m := m + 1) (c := 2) (k := 1) (en := E4) (A := .cst (.int 1)) r4 rfl ev_cst (Nat.le_refl 1) (show 1 ≤ 100 by decide) rfl
    exact ⟨.bad 2 1, h', .c2 f2, fn_ex (m := m + 3) (b := B_read) rfl rfl (hd5 (ss_x (s_asgx e)))⟩
  | cons a1 ar =>
    have g1 := g a1 (by simp)
    obtain ⟨h6, e6, x6⟩ := ln_yes (m := m + 2) (c := 2) (k := 1) (en := E4) (A := .cst (.int 1)) r4 rfl ev_cst rfl g1 hl rfl
    generalize h4.length + 2 = q at x6
    have l4 : 0 < h4.length := (List.getElem?_eq_some_iff.mp r4).1
    have hu : 0 < h4.length := l4
    have r6 : h6[0]? = some (.lst (rowsD (a0 :: a1 :: ar))) := by rw [x6.same 0 l4 (by omega)]; exact r4
    have l6 : h4.length ≤ h6.length := x6.len
    let E6 : En := [some T, some (.obj 0), some (.obj h4.length), none, some (.str (gT gg)), some (.str (tT tt))]
    have hd6 : ∀ {o : OS}, evSs (AT (m + 3)) (.cons (nthS 6 B_read) (.cons (nthS 7 B_read) (.cons (nthS 8 B_read) (.cons (nthS 9 B_read) .nil)))) E6 h6 = o → evSs (AT (m + 3)) B_read [some T, none, none, none, none, none] [] = o := fun e =>
      hd5 (ss_nx (s_asg e6) e)
    rcases read_wish_gen (m := m) x6 (wds_WL g1) with ⟨k, h', e, fk⟩ | ⟨w, n, h7, e7, x7, wf, nl, n4, fk, weq⟩
    · exact ⟨.bad 2 (k + 1), h', .c3 f2 fk, fn_ex (m := m + 3) (b := B_read) rfl rfl (hd6 (ss_x (s_asgx (ev_call (es_cons (ev_var rfl) es_nil) e))))⟩
    · let E7 : En := [some T, some (.obj 0), some (.obj h4.length), some w.d, some (.str (gT gg)), some (.str (tT tt))]
      have hd7 : ∀ {o : OS}, evSs (AT (m + 3)) (.cons (nthS 7 B_read) (.cons (nthS 8 B_read) (.cons (nthS 9 B_read) .nil))) E7 h7 = o → evSs (AT (m + 3)) B_read [some T, none, none, none, none, none] [] = o := fun e =>
        hd6 (ss_nx (s_asg (ev_call (es_cons (ev_var rfl) es_nil) e7)) e)
      by_cases ln : n < (wds a1).length
      · rw [if_pos ln] at fk
        have e := fin_no (m := m + 2) x7 ln (by decide) (by omega)
        exact ⟨.bad 2 (n + 1), h7, .c3 f2 fk, fn_ex (m := m + 3) (b := B_read) rfl rfl (hd7 (ss_x (s_exprx (ev_methO (ev_var rfl) x7.hu rfl es_nil e))))⟩
      · rw [if_neg ln] at fk
        have e8 := fin_yes (m := m + 2) x7 (show n = (wds a1).length by omega)
        have r1 := weq (by omega)
        have r7 : h7[0]? = some (.lst (rowsD (a0 :: a1 :: ar))) := by rw [x7.same 0 l4 (by omega)]; exact r4
        have hd8 : ∀ {o : OS}, evSs (AT (m + 3)) (.cons (nthS 8 B_read) (.cons (nthS 9 B_read) .nil)) E7 h7 = o → evSs (AT (m + 3)) B_read [some T, none, none, none, none, none] [] = o := fun e =>
          hd7 (ss_nx (s_expr (ev_methO (ev_var rfl) x7.hu rfl es_nil e8)) e)
        have ln' : evE (AT (m + 3)) (.bf .len (.cons (.var 1) .nil)) E7 h7 = .ok (.int ((ar.length + 2 : Nat) : Int)) h7 := e_bf (es_cons (ev_var rfl) es_nil) (by simp only [bfI, itemsOf, r7, List.length_map, List.length_cons])
        cases ar with
        | nil =>
          refine ⟨.ok gg tt w, h7, ?_, ?_⟩
          · show Due [wds a0, wds a1] _
            rw [r0] at f2
            rw [r1] at fk
            rw [r0, r1]
            exact .c5 f2 fk wf
          · exact fn_rt (m := m + 3) (b := B_read) rfl rfl (hd8 (ss_nx (retN (ev_cmp ln' gv_LINES (cmp_gt_f (by show ¬ (2 : Int) < 2; decide))) rfl) (ss_rt (s_ret (e_tup (es_cons (e_mkSale (ev_var rfl) (ev_var rfl) (mkS_ok gg tt h7)) (es_cons (ev_var rfl) es_nil)) (lim3 rfl))))))
        | cons a2 ar =>
          refine ⟨.bad 3 1, h7, .c4 f2 fk, fn_ex (m := m + 3) (en := E7) (b := B_read) rfl rfl (hd8 (ss_x (s_ite (b := true) (o := .ex (BL (3 : Nat) ((1 : Nat) : Int)) E7 h7) (evT_bl (ev_cmp ln' gv_LINES (cmp_gt_t (by simp only [List.length_cons]; omega)))) ?_)))⟩
          rw [if_pos rfl]
          exact r_raise (es_cons (ev_bin gv_LINES ev_cst rfl) (es_cons ev_cst es_nil)) (mk_BL (m := m + 3) (by decide) (by decide))
end
end Law_k11

set_option Elab.async false
set_option linter.all false
set_option maxRecDepth 100000
set_option maxHeartbeats 4000000
/-! TxR: the law's first word that cannot stand. -/
namespace Law_k11
open PySem PySem.Spec PyProof.Rows L2 Mi TL
/-- objects are only added -/
structure Ap (h h' : List O) : Prop where
  len : h.length ≤ h'.length
  same : ∀ k, k < h.length → h'[k]? = h[k]?
theorem Ap.refl (h : List O) : Ap h h := ⟨Nat.le_refl _, fun _ _ => rfl⟩
theorem Ap.trans {a b c : List O} (x : Ap a b) (y : Ap b c) : Ap a c := ⟨Nat.le_trans x.len y.len, fun k hk => (y.same k (Nat.lt_of_lt_of_le hk x.len)).trans (x.same k hk)⟩
theorem Ap.app (h l : List O) : Ap h (h ++ l) := ⟨by simp, fun k hk => List.getElem?_append_left hk⟩
theorem Ap.at_ {h h' : List O} (x : Ap h h') {i : Nat} {o : O} (e : h[i]? = some o) : h'[i]? = some o := (x.same i (List.getElem?_eq_some_iff.mp e).1).trans e
theorem Ap.items {h h' : List O} (x : Ap h h') {d : D} {ds : List D} (e : itemsOf d h = some ds) : itemsOf d h' = some ds := by
  cases d with
  | obj i =>
    simp only [itemsOf] at e ⊢
    cases q : h[i]? with
    | none => rw [q] at e; cases e
    | some o => rw [q] at e; rw [x.at_ q]; exact e
  | tup l => exact e
  | lsF l => exact e
  | _ => cases e
/-- a list of lists of words -/
def LsOk (h : List O) (d : D) (ls : List (List Wd)) : Prop := ∃ Ls, itemsOf d h = some Ls ∧ Ls.length = ls.length ∧ ∀ (k : Nat) (L : List Wd), ls[k]? = some L → ∃ e, Ls[k]? = some e ∧ itemsOf e h = some (wsD L)
theorem LsOk.mono {h h' : List O} (x : Ap h h') {d : D} {ls : List (List Wd)} (y : LsOk h d ls) : LsOk h' d ls := by
  obtain ⟨Ls, e, l, z⟩ := y
  refine ⟨Ls, x.items e, l, fun k L hk => ?_⟩
  obtain ⟨f, e1, e2⟩ := z k L hk
  exact ⟨f, e1, x.items e2⟩
theorem wsD_app (a b : List Wd) : wsD (a ++ b) = wsD a ++ wsD b := by unfold wsD; rw [List.map_append]
theorem wsD_rep : ∀ n, wsD (List.replicate n []) = List.replicate n (.str "") := fun n => by
  unfold wsD
  rw [List.map_replicate]
  have : (SX.S [] : Str) = "" := by decide +kernel
  rw [this]
theorem pad_at {ws : List Wd} {n k : Nat} (hk : k < ws.length + n) : (ws ++ List.replicate n ([] : Wd))[k]? = some (wAt ws k) := by
  by_cases h : k < ws.length
  · rw [List.getElem?_append_left h, List.getElem?_eq_getElem h]
    unfold wAt
    rw [List.getElem?_eq_getElem h]; rfl
  · rw [List.getElem?_append_right (by omega), List.getElem?_replicate, if_pos (by omega)]
    unfold wAt
    rw [List.getElem?_eq_none (by omega)]; rfl
theorem fa_at {ws : List Wd} {k : Nat} {L : List Wd} {ls : List (List Wd)} (h0 : [] ∉ L) : firstAt ws k (L :: ls) = if wAt ws k ∈ L then firstAt ws (k + 1) ls else k + 1 := by
  unfold wAt
  rw [firstAt]
  cases e : ws[k]? with
  | none => show k + 1 = if [] ∈ L then _ else _; rw [if_neg h0]
  | some w => rfl
def rgL : Nat → Nat → List D
  | _, 0 => []
  | k, n + 1 => .int (k : Nat) :: rgL (k + 1) n
theorem rgL_eq : ∀ (n k : Nat), rgL k n = (List.range' k n).map fun (i : Nat) => D.int (i : Int)
  | 0, _ => rfl
  | n + 1, k => by rw [rgL, rgL_eq n (k + 1), List.range'_succ]; rfl
theorem rg_rgL (n : Nat) : rangeD 0 (n : Nat) = rgL 0 n := by
  rw [rgL_eq, ← List.range_eq_range']
  unfold rangeD
  rw [show ((n : Int) - 0).toNat = n by omega]
  refine List.map_congr_left fun i _ => ?_
  show D.int (0 + (i : Int)) = _
  rw [Int.zero_add]
def fsB : Ss := match nthS 0 B__law_first with
  | .for_ _ _ b => b
  | _ => .nil
section
variable {m a n k : Nat} {ws L : List Wd} {ls : List (List Wd)} {dL : D} {h : List O} {F : Fns} {en : En}
/-- a list joined with empty words -/
theorem pad_ev {j i : Nat} {h : List O} (ha : h[i]? = some (.lst (wsD ws))) (hj : h[j]? = some (.lst (wsD (List.replicate n [])))) (hl : ws.length + n ≤ 5000) : binI .add (.obj i) (.obj j) h = .ok (.obj h.length) (h ++ [.lst (wsD (ws ++ List.replicate n []))]) := by
  simp only [Mi.binI, ha, hj]
  rw [if_pos (by rw [wsD_len, wsD_len, List.length_replicate]; unfold LIM; omega), ← wsD_app]; rfl
theorem fs_cond {c2 : Option D} (hn : n ≤ 900) (hw : ws.length ≤ 1000) (ha : h[a]? = some (.lst (wsD ws))) (hL : LsOk h dL ls) (ln : ls.length = n) (hk : ls[k]? = some L) (h0 : [] ∉ L) :
    ∃ h', evE (AT m) (.cmp .nin (.idx (.bin .add (.var 0) (.bin .mul (.lst (.cons (.cst (.str "")) .nil)) (.bin .add (.bf .len (.cons (.var 1) .nil)) (.cst (.int 1))))) (.var 2)) (.idx (.var 1) (.var 2))) [some (.obj a), some dL, some (.int (k : Nat))] h = .ok (.bl (!decide (wAt ws k ∈ L))) h' ∧ Ap h h' := by
  obtain ⟨Ls, e1, e2, e3⟩ := hL
  obtain ⟨d, e4, e5⟩ := e3 k L hk
  have kn : k < n := by rw [← ln]; exact (List.getElem?_eq_some_iff.mp hk).1
  let E : En := [some (.obj a), some dL, some (.int (k : Nat))]
  let h1 := h ++ [O.lst [.str ""]]
  have x1 : Ap h h1 := Ap.app _ _
  let h2 := h1 ++ [O.lst (wsD (List.replicate (n + 1) []))]
  have x2 : Ap h h2 := x1.trans (Ap.app _ _)
  let h3 := h2 ++ [O.lst (wsD (ws ++ List.replicate (n + 1) []))]
  have x3 : Ap h h3 := x2.trans (Ap.app _ _)
  have q1 : evE (AT m) (.lst (.cons (.cst (.str "")) .nil)) E h = .ok (.obj h.length) h1 := e_lst (es_cons ev_cst es_nil) (lim3 rfl)
  have q2 : evE (AT m) (.bin .add (.bf .len (.cons (.var 1) .nil)) (.cst (.int 1))) E h1 = .ok (.int ((n + 1 : Nat) : Int)) h1 := by
    refine ev_bin (e_bf (es_cons (ev_var rfl) es_nil) (show bfI .len [dL] h1 = .ok (.int (Ls.length : Nat)) h1 by simp only [bfI, x1.items e1])) ev_cst ?_
    rw [e2, ln]
    show Out.ok (D.int ((n : Int) + 1)) h1 = _
    rw [show ((n + 1 : Nat) : Int) = (n : Int) + 1 by omega]
  have q3 : binI .mul (.obj h.length) (.int ((n + 1 : Nat) : Int)) h1 = .ok (.obj h1.length) h2 := by
    have : h1[h.length]? = some (.lst [.str ""]) := by simp [h1]
    simp only [Mi.binI, this]
    rw [if_pos ⟨by omega, by omega, by show 1 ≤ 100; decide⟩, Int.toNat_natCast, List.flatten_replicate_singleton, ← wsD_rep]; rfl
  have q4 : evE (AT m) (.bin .add (.var 0) (.bin .mul (.lst (.cons (.cst (.str "")) .nil)) (.bin .add (.bf .len (.cons (.var 1) .nil)) (.cst (.int 1))))) E h = .ok (.obj h2.length) h3 :=
    ev_bin (ev_var rfl) (ev_bin q1 q2 q3) (pad_ev (x2.at_ ha) (by simp [h2]) (by omega))
  have q5 : evE (AT m) (.idx (.bin .add (.var 0) (.bin .mul (.lst (.cons (.cst (.str "")) .nil)) (.bin .add (.bf .len (.cons (.var 1) .nil)) (.cst (.int 1))))) (.var 2)) E h = .ok (.str (SX.S (wAt ws k))) h3 := by
    refine ev_idx q4 (ev_var rfl) ?_
    have : h3[h2.length]? = some (.lst (wsD (ws ++ List.replicate (n + 1) []))) := by simp [h3]
    simp only [idxI, itemsOf, this]
    exact atI_nat (wsD_at (pad_at (by omega)))
  have q6 : evE (AT m) (.idx (.var 1) (.var 2)) E h3 = .ok d h3 := ev_idx (ev_var rfl) (ev_var rfl) (by simp only [idxI, x3.items e1]; exact atI_nat e4)
  exact ⟨h3, ev_cmp q5 q6 (nin_val (x3.items e5)), x3⟩
theorem fs_loop (hn : n ≤ 900) (hw : ws.length ≤ 1000) (all : ls.length = n) (nil : ∀ L ∈ ls, [] ∉ L) : ∀ (rest : List (List Wd)) (k : Nat) (c2 : Option D) (h : List O), ls.drop k = rest → h[a]? = some (.lst (wsD ws)) → LsOk h dL ls →
    ∃ h', Ap h h' ∧ ((∃ r, forI (setT [2]) (evSs (AT m) fsB) (rgL k rest.length) [some (.obj a), some dL, c2] h = .rt (.int ((r : Nat) : Int)) h' ∧ firstAt ws k rest = r) ∨ (∃ c2', forI (setT [2]) (evSs (AT m) fsB) (rgL k rest.length) [some (.obj a), some dL, c2] h = .nx [some (.obj a), some dL, c2'] h' ∧ firstAt ws k rest = firstAt ws (k + rest.length) []))
  | [], k, c2, h, _, _, _ => ⟨h, Ap.refl h, .inr ⟨c2, rfl, rfl⟩⟩
  | L :: rest, k, c2, h, hd, ha, hL => by
    have hk : ls[k]? = some L := by
      have : (ls.drop k)[0]? = some L := by rw [hd]; rfl
      rwa [List.getElem?_drop, Nat.add_zero] at this
    have h0 : [] ∉ L := nil L (List.mem_of_getElem? hk)
    obtain ⟨h1, e1, x1⟩ := fs_cond (m := m) (c2 := c2) hn hw ha hL all hk h0
    rw [fa_at h0]
    have step : rgL k (L :: rest).length = .int (k : Nat) :: rgL (k + 1) rest.length := rfl
    rw [step, forI]
    show ∃ h', _ ∧ ((∃ r, (match evSs (AT m) fsB [some (.obj a), some dL, some (.int (k : Nat))] h with
      | .nx en h => forI (setT [2]) (evSs (AT m) fsB) (rgL (k + 1) rest.length) en h
      | .bk en h => .nx en h
      | .rt d h => .rt d h
      | .ex x en h => .ex x en h
      | .stuck => .stuck) = _ ∧ _) ∨ (∃ c2', (match evSs (AT m) fsB [some (.obj a), some dL, some (.int (k : Nat))] h with
      | .nx en h => forI (setT [2]) (evSs (AT m) fsB) (rgL (k + 1) rest.length) en h
      | .bk en h => .nx en h
      | .rt d h => .rt d h
      | .ex x en h => .ex x en h
      | .stuck => .stuck) = _ ∧ _))
    by_cases hm : wAt ws k ∈ L
    · rw [if_pos hm]
      rw [decide_eq_true hm] at e1
      have b : evSs (AT m) fsB [some (.obj a), some dL, some (.int (k : Nat))] h = .nx [some (.obj a), some dL, some (.int (k : Nat))] h1 := ss_nx (retN e1 rfl) ss_nil
      rw [b]
      obtain ⟨h', x2, z⟩ := fs_loop hn hw all nil rest (k + 1) (some (.int (k : Nat))) h1 (by rw [← List.drop_drop, hd]; rfl) (x1.at_ ha) (hL.mono x1)
      refine ⟨h', x1.trans x2, ?_⟩
      rcases z with ⟨r, z1, z2⟩ | ⟨c, z1, z2⟩
      · exact .inl ⟨r, z1, z2⟩
      · exact .inr ⟨c, z1, by rw [z2, List.length_cons, show k + (rest.length + 1) = k + 1 + rest.length by omega]⟩
    · rw [if_neg hm]
      rw [decide_eq_false hm] at e1
      have ad : binI .add (.int (k : Nat)) (.int 1) h1 = .ok (.int ((k + 1 : Nat) : Int)) h1 := by
        show Out.ok (D.int ((k : Int) + 1)) h1 = _
        rw [show ((k + 1 : Nat) : Int) = (k : Int) + 1 by omega]
      have b : evSs (AT m) fsB [some (.obj a), some dL, some (.int (k : Nat))] h = .rt (.int ((k + 1 : Nat) : Int)) h1 := by
        refine ss_rt (s_ite (b := true) (evT_bl e1) ?_)
        rw [if_pos rfl]
        exact ss_rt (s_ret (ev_bin (ev_var rfl) ev_cst ad))
      rw [b]
      exact ⟨h1, x1, .inl ⟨k + 1, rfl, rfl⟩⟩
theorem first_ok (hn : ls.length ≤ 900) (hw : ws.length ≤ 1000) (nil : ∀ L ∈ ls, [] ∉ L) (ha : h[a]? = some (.lst (wsD ws))) (hL : LsOk h dL ls) : ∃ h', (AT (m + 1)).fn i__law_first [.obj a, dL] h = .ok (.int ((firstAt ws 0 ls : Nat) : Int)) h' ∧ Ap h h' := by
  obtain ⟨h1, x1, z⟩ := fs_loop (m := m) (n := ls.length) hn hw rfl nil ls 0 none h rfl ha hL
  have ⟨Ls, i1, i2, i3⟩ := hL
  have lnL : ∀ {h'}, Ap h h' → ∀ {en : En}, en[1]? = some (some dL) → evE (AT m) (.bf .len (.cons (.var 1) .nil)) en h' = .ok (.int (ls.length : Nat)) h' := fun x en he => e_bf (es_cons (ev_var he) es_nil) (by simp only [bfI, x.items i1, i2])
  have rg : ∀ {o}, forI (setT [2]) (evSs (AT m) fsB) (rgL 0 ls.length) [some (.obj a), some dL, none] h = o → evS (AT m) (nthS 0 B__law_first) [some (.obj a), some dL, none] h = o := fun e => by
    refine s_range1 (lnL (Ap.refl h) rfl) (small_nat (by omega)) ?_
    rw [rg_rgL]; exact e
  rcases z with ⟨r, z1, z2⟩ | ⟨c, z1, z2⟩
  · rw [z2]
    exact ⟨h1, fn_rt (m := m) (b := B__law_first) rfl rfl (ss_rt (rg z1)), x1⟩
  · rw [z2, Nat.zero_add, fa_end]
    have ha1 := x1.at_ ha
    have lw : evE (AT m) (.bf .len (.cons (.var 0) .nil)) [some (.obj a), some dL, c] h1 = .ok (.int (ws.length : Nat)) h1 := e_bf (es_cons (ev_var rfl) es_nil) (by simp only [bfI, itemsOf, ha1, wsD_len])
    have ad : binI .add (.int (ls.length : Nat)) (.int 1) h1 = .ok (.int ((ls.length + 1 : Nat) : Int)) h1 := by
      show Out.ok (D.int ((ls.length : Int) + 1)) h1 = _
      rw [show ((ls.length + 1 : Nat) : Int) = (ls.length : Int) + 1 by omega]
    refine ⟨h1, fn_rt (m := m) (b := B__law_first) rfl rfl (ss_nx (rg z1) (ss_rt (s_ret ?_))), x1⟩
    by_cases q : ls.length < ws.length
    · rw [if_pos q]
      exact e_ite (b := true) (ev_cmp lw (lnL x1 rfl) (cmp_gt_t (by omega))) rfl (ev_bin (lnL x1 rfl) ev_cst ad)
    · rw [if_neg q]
      exact e_ite (b := false) (ev_cmp lw (lnL x1 rfl) (cmp_gt_f (by omega))) rfl ev_cst
end
end Law_k11

set_option Elab.async false
set_option linter.all false
set_option maxRecDepth 100000
set_option maxHeartbeats 4000000
/-! TxS: the law's lists of words that may stand. -/
namespace Law_k11
open PySem PySem.Spec PyProof.Rows L2 Mi TL
/-- a list of ours of lists of words, under way -/
structure Fd (h0 h : List O) (f : Nat) (es : List D) (ls : List (List Wd)) : Prop where
  ap : Ap h0 h
  lo : h0.length ≤ f
  at_ : h[f]? = some (.lst es)
  len : es.length = ls.length
  its : ∀ (k : Nat) (L : List Wd), ls[k]? = some L → ∃ i, es[k]? = some (.obj i) ∧ i ≠ f ∧ h[i]? = some (.lst (wsD L))
section
variable {h0 h h' : List O} {f i : Nat} {es : List D} {ls : List (List Wd)} {L : List Wd}
theorem Fd.mono (x : Fd h0 h f es ls) (y : Ap h h') : Fd h0 h' f es ls := ⟨x.ap.trans y, x.lo, y.at_ x.at_, x.len, fun k L hk => by
  obtain ⟨i, e1, e2, e3⟩ := x.its k L hk
  exact ⟨i, e1, e2, y.at_ e3⟩⟩
theorem Fd.push (x : Fd h0 h f es ls) (hi : h[i]? = some (.lst (wsD L))) (ne : i ≠ f) : Fd h0 (h.set f (.lst (es ++ [.obj i]))) f (es ++ [.obj i]) (ls ++ [L]) := by
  have lf : f < h.length := (List.getElem?_eq_some_iff.mp x.at_).1
  refine ⟨⟨by rw [List.length_set]; exact x.ap.len, fun k hk => ?_⟩, x.lo, List.getElem?_set_self lf, by rw [List.length_append, List.length_append, x.len]; rfl, fun k M hk => ?_⟩
  · rw [List.getElem?_set_ne (by have := x.lo; omega)]; exact x.ap.same k hk
  · by_cases hl : k < ls.length
    · rw [List.getElem?_append_left hl] at hk
      obtain ⟨j, e1, e2, e3⟩ := x.its k M hk
      exact ⟨j, by rw [List.getElem?_append_left (by rw [x.len]; exact hl)]; exact e1, e2, by rw [List.getElem?_set_ne (Ne.symm e2)]; exact e3⟩
    · rw [List.getElem?_append_right (by omega)] at hk
      have hk0 : k - ls.length = 0 := by
        have := (List.getElem?_eq_some_iff.mp hk).1
        simp at this; omega
      rw [hk0] at hk
      have : M = L := by simpa using hk.symm
      subst this
      refine ⟨i, by rw [List.getElem?_append_right (by rw [x.len]; omega), x.len, hk0]; rfl, ne, by rw [List.getElem?_set_ne (Ne.symm ne)]; exact hi⟩
theorem Fd.ok (x : Fd h0 h f es ls) : LsOk h (.obj f) ls := ⟨es, by simp only [itemsOf, x.at_], x.len, fun k L hk => by
  obtain ⟨i, e1, _, e3⟩ := x.its k L hk
  exact ⟨.obj i, e1, by simp only [itemsOf, e3]⟩⟩
end
section
variable {F : Fns} {m a n k f v : Nat} {ws : List Wd} {h h1 : List O} {en : En} {es : Es} {A : E} {l : List D} {d : D}
theorem e_app (he : en[v]? = some (some (.obj f))) (hf : h[f]? = some (.lst l)) (hA : evE F A en h = .ok d h1) (hf1 : h1[f]? = some (.lst l)) (hl : l.length ≤ 1000) : evE F (.bm .append (.var v) (.cons A .nil)) en h = .ok .non (h1.set f (.lst (l ++ [d]))) := by
  rw [evE, ev_var he]; simp only [Out.bind_ok]
  have bt : bmT .append (.obj f) h = true := by simp only [bmT, hf]
  rw [if_pos bt, es_cons hA es_nil]; simp only [Out.bind_ok, bmI, hf1]
  rw [if_pos (show l.length < LIM by unfold LIM; omega)]
theorem pad_idx (ha : h[a]? = some (.lst (wsD ws))) (he : en[0]? = some (some (.obj a))) (hE : evEs F es en h = .ok (List.replicate n (.str "")) h) (hn : n ≤ 100) (hw : ws.length ≤ 1000) (hk : k < ws.length + n) : ∃ h', evE F (.idx (.bin .add (.var 0) (.lst es)) (.cst (.int (k : Nat)))) en h = .ok (.str (SX.S (wAt ws k))) h' ∧ Ap h h' := by
  let h1 := h ++ [O.lst (wsD (List.replicate n []))]
  have x1 : Ap h h1 := Ap.app _ _
  have q1 : evE F (.lst es) en h = .ok (.obj h.length) h1 := by
    have := e_lst hE (by rw [List.length_replicate]; unfold LIM; omega)
    rw [← wsD_rep] at this; exact this
  have q2 := ev_bin (p := .add) (ev_var (F := F) he) q1 (pad_ev (ws := ws) (n := n) (x1.at_ ha) (by simp [h1]) (by omega))
  refine ⟨_, ev_idx q2 ev_cst ?_, x1.trans (Ap.app _ _)⟩
  simp only [idxI, itemsOf]
  rw [List.getElem?_concat_length]
  exact atI_nat (wsD_at (pad_at hk))
theorem num_el5 {a0 a1 a2 a3 : Option D} {w : Int} {h2 : List O} (hv : w.natAbs < 2 ^ 63) : elI false (evE F (.cst (.bl true))) (evE F (.bf .str (.cons (.var 4) .nil))) [a0, a1, a2, a3, some (.int w)] h2 = .ok (numG (.int w)) h2 := by
  unfold elI
  rw [if_neg Bool.false_ne_true, e_bf (es_cons (ev_var rfl) es_nil) (str_int hv)]; rfl
theorem nums1 {a0 a1 a2 a3 a4 : Option D} (hA : evE F A [a0, a1, a2, a3, a4] h = .ok (.int (n : Nat)) h) (hn : n ≤ 900) : evE F (.comp1 [4] 4 false A (.cst (.bl true)) (.bf .str (.cons (.var 4) .nil))) [a0, a1, a2, a3, a4] h = .ok (.obj h.length) (h ++ [.lst (wsD (nums 0 n))]) := by
  refine e_comp1 hA (small_nat (by omega)) ?_
  have rg : rangeD 0 (n : Nat) = numL' 0 n := by
    unfold rangeD numL'
    rw [show ((n : Int) - 0).toNat = n by omega]; rfl
  rw [rg]
  have z := cmpL_pure (set := setT [4] (wipeE [a0, a1, a2, a3, a4] [4])) (ev := elI false (evE F (.cst (.bl true))) (evE F (.bf .str (.cons (.var 4) .nil)))) (g := numG) (i := h.length) (numL' 0 n) (h ++ [O.lst []]) [] (fun d hd => by
    obtain ⟨k, hk, rfl⟩ := List.mem_map.mp hd
    have kl := List.mem_range.mp hk
    exact ⟨[a0, a1, a2, a3, some (.int (((0 : Nat) : Int) + (k : Int)))], rfl, fun h3 => num_el5 (by omega)⟩) (by simp) (by
    unfold numL'
    rw [List.length_map, List.length_range]
    show 0 + n ≤ LIM
    unfold LIM; omega)
  rw [numD', ← nums_D, List.nil_append] at z
  rw [z]
  have : (h ++ [O.lst []]).set h.length (.lst (wsD (nums 0 n))) = h ++ [.lst (wsD (nums 0 n))] := by simp
  rw [this]
end
theorem wAt_128 {ws : List Wd} (hW : WL ws) (k : Nat) : ∀ c ∈ wAt ws k, c < 128 := fun c hc => by
  unfold wAt at hc
  cases e : ws[k]? with
  | none => rw [e] at hc; simp at hc
  | some w => rw [e] at hc; exact (hW w (List.mem_of_getElem? e)).2 c hc
theorem r128 : ∀ c ∈ cds "row", c < 128 := by decide +kernel
theorem nums14 : wsD (nums 1 4) = [.str "1", .str "2", .str "3", .str "4"] := by kernel_rfl
section
variable {m a : Nat} {ws : List Wd} {h : List O}
theorem lists_ok (hW : WL ws) (hl : ws.length ≤ 1000) (ha : h[a]? = some (.lst (wsD ws))) (h1w : 1 ≤ ws.length + 1) : ∃ f h', (AT (m + 1)).fn i__law_lists [.obj a] h = .ok (.obj f) h' ∧ Ap h h' ∧ LsOk h' (.obj f) (lists2 ws) := by
  obtain ⟨ha1, e1, x1⟩ := pad_idx (F := AT m) (k := 1) (n := 2) (en := [some (.obj a), none, none, none, none]) (es := .cons (.cst (.str "")) (.cons (.cst (.str "")) .nil)) ha rfl (es_cons ev_cst (es_cons ev_cst es_nil)) (by decide) hl (by omega)
  obtain ⟨hb, e2, x2⟩ := pad_idx (F := AT m) (k := 2) (n := 3) (en := [some (.obj a), none, none, none, none]) (es := .cons (.cst (.str "")) (.cons (.cst (.str "")) (.cons (.cst (.str "")) .nil))) (x1.at_ ha) rfl (es_cons ev_cst (es_cons ev_cst (es_cons ev_cst es_nil))) (by decide) hl (by omega)
  have x2 := x1.trans x2
  let W1 : D := .str (SX.S (wAt ws 1))
  let W2 : D := .str (SX.S (wAt ws 2))
  let Ea : En := [some (.obj a), none, some W1, some W2, none]
  have s0 : evS (AT m) (nthS 0 B__law_lists) [some (.obj a), none, none, none, none] h = .nx Ea hb := s_par (es_cons e1 (es_cons e2 es_nil)) rfl
  obtain ⟨f, he, o1, o2, s1, fd⟩ : ∃ (f : Nat) (he : List O) (o1 o2 : Nat), evS (AT m) (nthS 1 B__law_lists) Ea hb = .nx [some (.obj a), some (.obj f), some W1, some W2, none] he ∧ Fd h he f [.obj o1, .obj o2] [wish1, kindsL] := by
    let hc := hb ++ [O.lst (wsD wish1)]
    let hd := hc ++ [O.lst (wsD kindsL)]
    let f := hd.length
    let he := hd ++ [O.lst [.obj hb.length, .obj hc.length]]
    have q1 : evE (AT m) (.lst (.cons (.cst (.str "wish")) .nil)) Ea hb = .ok (.obj hb.length) hc := by
      have := e_lst (F := AT m) (en := Ea) (h := hb) (es_cons (ev_cst (d := .str "wish")) es_nil) (lim3 rfl)
      rw [← lit1] at this; exact this
    have q2 : evE (AT m) (.lst (.cons (.cst (.str "least")) (.cons (.cst (.str "half")) (.cons (.cst (.str "last")) (.cons (.cst (.str "row")) .nil))))) Ea hc = .ok (.obj hc.length) hd := by
      have := e_lst (F := AT m) (en := Ea) (h := hc) (es_cons (ev_cst (d := .str "least")) (es_cons (ev_cst (d := .str "half")) (es_cons (ev_cst (d := .str "last")) (es_cons (ev_cst (d := .str "row")) es_nil)))) (lim3 rfl)
      rw [← lit4] at this; exact this
    have s1 : evS (AT m) (nthS 1 B__law_lists) Ea hb = .nx [some (.obj a), some (.obj f), some W1, some W2, none] he := s_asg (e_lst (es_cons q1 (es_cons q2 es_nil)) (lim3 rfl))
    have fd : Fd h he f [.obj hb.length, .obj hc.length] [wish1, kindsL] := by
      refine ⟨x2.trans ((Ap.app _ _).trans ((Ap.app _ _).trans (Ap.app _ _))), ?_, by simp [he, f], rfl, fun k L hk => ?_⟩
      · show h.length ≤ hd.length
        have := x2.len
        simp only [hd, hc, List.length_append, List.length_cons, List.length_nil]; omega
      · match k, hk with
        | 0, hk =>
          cases hk
          refine ⟨hb.length, rfl, by show hb.length ≠ hd.length; simp only [hd, hc, List.length_append, List.length_cons, List.length_nil]; omega, ?_⟩
          exact ((Ap.app hc _).trans (Ap.app hd _)).at_ (by simp [hc])
        | 1, hk =>
          cases hk
          refine ⟨hc.length, rfl, by show hc.length ≠ hd.length; simp only [hd, List.length_append, List.length_cons, List.length_nil]; omega, ?_⟩
          exact (Ap.app hd _).at_ (by simp [hd])
        | k + 2, hk => simp at hk
    exact ⟨f, he, hb.length, hc.length, s1, fd⟩
  let Eb : En := [some (.obj a), some (.obj f), some W1, some W2, none]
  have c1 : ∀ h, cmpI .eq W1 (.str "least") h = some (decide (wAt ws 1 = cds "least")) := fun h => eq_least (wAt_128 hW 1)
  have c2 : ∀ h, cmpI .eq W1 (.str "row") h = some (decide (wAt ws 1 = cds "row")) := fun h => eq_lit (S_cds "row").symm (wAt_128 hW 1) r128
  have lf : f < he.length := (List.getElem?_eq_some_iff.mp fd.at_).1
  by_cases le : wAt ws 1 = cds "least"
  · have ro : ¬ wAt ws 1 = cds "row" := fun z => kw_ne1 (z.symm.trans le)
    have x3 : Ap he (he ++ [O.lst (wsD (nums 0 301))]) := Ap.app _ _
    have fd2 := (fd.mono x3).push (i := he.length) (L := nums 0 301) (by simp) (by omega)
    have nm := nums1 (F := AT m) (A := .cst (.int 301)) (n := 301) (h := he) (a0 := some (.obj a)) (a1 := some (.obj f)) (a2 := some W1) (a3 := some W2) (a4 := none) ev_cst (by decide)
    have ml : moreL ws = [nums 0 301] := by unfold moreL; rw [if_pos le]
    refine ⟨f, _, fn_rt (m := m) (b := B__law_lists) rfl rfl (ss_nx s0 (ss_nx s1 (ss_nx (en1 := Eb) (s_ite (b := true) (evT_bl (ev_cmp (ev_var rfl) ev_cst (by rw [c1, decide_eq_true le]))) (by rw [if_pos rfl]; exact ss_nx (s_expr (e_app (v := 1) rfl fd.at_ nm (x3.at_ fd.at_) (by show 2 ≤ 1000; decide))) ss_nil)) (ss_nx (retN (ev_cmp (ev_var rfl) ev_cst (by rw [c2, decide_eq_false ro])) rfl) (ss_rt (s_ret (ev_var rfl))))))), fd2.ap, ?_⟩
    have := fd2.ok
    unfold lists2
    rw [ml]; exact this
  have t2 : ∀ {ss : Ss} {o : OS}, evSs (AT m) ss Eb he = o → evSs (AT m) (.cons (nthS 2 B__law_lists) ss) Eb he = o := fun e => ss_nx (retN (ev_cmp (ev_var rfl) ev_cst (by rw [c1, decide_eq_false le])) rfl) e
  by_cases ro : wAt ws 1 = cds "row"
  case neg =>
    have ml : moreL ws = [] := by unfold moreL; rw [if_neg le, if_neg ro]
    refine ⟨f, he, fn_rt (m := m) (b := B__law_lists) rfl rfl (ss_nx s0 (ss_nx s1 (t2 (ss_nx (retN (ev_cmp (ev_var rfl) ev_cst (by rw [c2, decide_eq_false ro])) rfl) (ss_rt (s_ret (ev_var rfl))))))), fd.ap, ?_⟩
    unfold lists2
    rw [ml]; exact fd.ok
  · have x3 : Ap he (he ++ [O.lst (wsD (nums 1 4))]) := Ap.app _ _
    have fd2 := (fd.mono x3).push (i := he.length) (L := nums 1 4) (by simp) (by omega)
    let l2 : List D := [.obj o1, .obj o2, .obj he.length]
    have fd2 : Fd h ((he ++ [O.lst (wsD (nums 1 4))]).set f (.lst l2)) f l2 [wish1, kindsL, nums 1 4] := fd2
    have q3 : evE (AT m) (.lst (.cons (.cst (.str "1")) (.cons (.cst (.str "2")) (.cons (.cst (.str "3")) (.cons (.cst (.str "4")) .nil))))) Eb he = .ok (.obj he.length) (he ++ [O.lst (wsD (nums 1 4))]) := by
      have := e_lst (F := AT m) (en := Eb) (h := he) (es_cons (ev_cst (d := .str "1")) (es_cons (ev_cst (d := .str "2")) (es_cons (ev_cst (d := .str "3")) (es_cons (ev_cst (d := .str "4")) es_nil)))) (lim3 rfl)
      rw [← nums14] at this; exact this
    have p1 : evS (AT m) (.expr (.bm .append (.var 1) (.cons (.lst (.cons (.cst (.str "1")) (.cons (.cst (.str "2")) (.cons (.cst (.str "3")) (.cons (.cst (.str "4")) .nil))))) .nil))) Eb he = .nx Eb ((he ++ [O.lst (wsD (nums 1 4))]).set f (.lst l2)) := s_expr (e_app (v := 1) rfl fd.at_ q3 (x3.at_ fd.at_) (by show 2 ≤ 1000; decide))
    generalize (he ++ [O.lst (wsD (nums 1 4))]).set f (.lst l2) = hf at *
    obtain ⟨i3, e3, n3, at3⟩ := fd2.its 2 (nums 1 4) rfl
    have it3 : itemsOf (.obj i3) hf = some (wsD (nums 1 4)) := by simp only [itemsOf, at3]
    have qi : evE (AT m) (.cmp .inn (.var 3) (.idx (.var 1) (.cst (.int 2)))) Eb hf = .ok (.bl (decide (wAt ws 2 ∈ nums 1 4))) hf := ev_cmp (ev_var rfl) (ev_idx (ev_var rfl) ev_cst (by
      have fa := fd2.at_
      simp only [idxI, itemsOf, fa]; exact atI_nat (j := 2) e3)) (in_val it3)
    let M : List Wd := if wAt ws 2 ∈ nums 1 4 then nums 0 (valW (wAt ws 2)) else []
    have ml : moreL ws = [nums 1 4, M] := by unfold moreL; rw [if_neg le, if_pos ro]
    have q4 : evE (AT m) (.ite (.cmp .inn (.var 3) (.idx (.var 1) (.cst (.int 2)))) (.comp1 [4] 4 false (.bf .int (.cons (.var 3) .nil)) (.cst (.bl true)) (.bf .str (.cons (.var 4) .nil))) (.lst .nil)) Eb hf = .ok (.obj hf.length) (hf ++ [.lst (wsD M)]) := by
      by_cases hm : wAt ws 2 ∈ nums 1 4
      · have eM : M = nums 0 (valW (wAt ws 2)) := if_pos hm
        rw [eM]
        refine e_ite (b := true) qi (by rw [decide_eq_true hm]; rfl) ?_
        obtain ⟨j, j0, j1, ej⟩ := mem_nums.mp hm
        have bi : bfI .int [W2] hf = .ok (.int (valW (wAt ws 2) : Nat)) hf := by
          show bfI .int [.str (SX.S (wAt ws 2))] hf = _
          rw [ej, valW_num (show j ≤ 4 by omega), ← numS_S]
          simp only [bfI, num_int (show j ≤ 1000 by omega)]
          rw [if_pos (num_len (by omega))]
        exact nums1 (e_bf (es_cons (ev_var rfl) es_nil) bi) (by rw [ej, valW_num (show j ≤ 4 by omega)]; omega)
      · have eM : M = [] := if_neg hm
        rw [eM]
        exact e_ite (b := false) qi (by rw [decide_eq_false hm]; rfl) (e_lst es_nil (lim3 rfl))
    have lf2 : f < hf.length := (List.getElem?_eq_some_iff.mp fd2.at_).1
    have x4 : Ap hf (hf ++ [O.lst (wsD M)]) := Ap.app _ _
    have fd3 := (fd2.mono x4).push (i := hf.length) (L := M) (by simp) (by omega)
    have p2 := s_expr (e_app (v := 1) (en := Eb) rfl fd2.at_ q4 (x4.at_ fd2.at_) (by show 3 ≤ 1000; decide))
    refine ⟨f, _, fn_rt (m := m) (b := B__law_lists) rfl rfl (ss_nx s0 (ss_nx s1 (t2 (ss_nx (en1 := Eb) (s_ite (b := true) (evT_bl (ev_cmp (ev_var rfl) ev_cst (by rw [c2, decide_eq_true ro]))) (by rw [if_pos rfl]; exact ss_nx p1 (ss_nx p2 ss_nil))) (ss_rt (s_ret (ev_var rfl))))))), fd3.ap, ?_⟩
    have := fd3.ok
    unfold lists2
    rw [ml]; exact this
end
end Law_k11

set_option Elab.async false
set_option linter.all false
set_option maxRecDepth 100000
set_option maxHeartbeats 4000000
/-! TxT: the law's rows of words. -/
namespace Law_k11
open PySem PySem.Spec PyProof.Rows L2 Mi TL
section
variable {F : Fns} {m : Nat} {a : List Nat} {h : List O} {e0 e1 e2 : Option D}
abbrev inE : E := .comp [4] [4] true (.bm .split (.var 3) (.cons (.cst (.str " ")) .nil)) (.cmp .ne (.var 4) (.cst (.str ""))) (.var 4)
theorem in_ok (g : good a) : evE F inE [e0, e1, e2, some (.str (SX.S a)), none] h = .ok (.obj (h.length + 1)) (h ++ [.lst ((Txt.split (SX.S a) " ").map .str), .lst (wsD (wds a))]) := by
  let P : List D := (Txt.split (SX.S a) " ").map .str
  have s0 : (" " : Str) = SX.S [32] := by decide +kernel
  have eP : P = (spl [32] 0 [] a).map fun w => .str (SX.S w) := by
    show ((Txt.split (SX.S a) " ").map D.str) = _
    rw [s0, SX.split_S (by simp) (by decide), List.map_map]; rfl
  have lP : P.length ≤ 901 := by rw [eP, List.length_map]; have := spl_len _ a (Nat.le_refl _); have := g.2; omega
  let E : En := [e0, e1, e2, some (.str (SX.S a)), none]
  have sp : evE F (.bm .split (.var 3) (.cons (.cst (.str " ")) .nil)) E h = .ok (.obj h.length) (h ++ [.lst P]) := by
    rw [evE, ev_var (d := .str (SX.S a)) rfl]; simp only [Out.bind_ok]
    have bt : bmT .split (.str (SX.S a)) h = true := rfl
    rw [if_pos bt, es_cons ev_cst es_nil]; simp only [Out.bind_ok]
    show (if ((" " : Str).length == 0) = false ∧ (SX.S a).length ≤ LIM then new (.lst P) h else .stuck) = _
    rw [if_pos ⟨by decide +kernel, by rw [SX.S_len]; have := g.2; unfold LIM; omega⟩]; rfl
  let h1 := h ++ [O.lst P]
  have l1 : h1.length = h.length + 1 := by simp [h1]
  have h1j : (h1 ++ [O.lst []])[h.length]? = some (.lst P) := by
    rw [List.getElem?_append_left (by omega)]
    simp [h1]
  have h1i : (h1 ++ [O.lst []])[h1.length]? = some (.lst []) := by simp
  rw [evE, sp]; simp only [Out.bind_ok]
  have hj : h1[h.length]? = some (.lst P) := by simp [h1]
  show cmpE h1.length (match h1[h.length]? with
    | some (.lst ds) => cmpO h.length (setT [4] (wipeE E [4])) (elI true (evE F (.cmp .ne (.var 4) (.cst (.str "")))) (evE F (.var 4))) h1.length (ds.length + 1) 0 (h1 ++ [.lst []])
    | _ => .stuck) = _
  rw [hj]; simp only
  have st : ∀ d, d ∈ P → ∃ en, setT [4] (wipeE E [4]) d = some en ∧ ∀ h, elI true (evE F (.cmp .ne (.var 4) (.cst (.str "")))) (evE F (.var 4)) en h = .ok (keepW d) h := fun d hd => by
    rw [eP] at hd
    obtain ⟨w, hw, rfl⟩ := List.mem_map.mp hd
    have wok : ∀ c ∈ w, c < 128 := fun c hc => (g.1 c (spl_mem _ a (Nat.le_refl _) w hw c hc)).1
    refine ⟨[e0, e1, e2, some (.str (SX.S a)), some (.str (SX.S w))], rfl, fun h2 => ?_⟩
    unfold elI
    rw [if_pos rfl, ev_cmp (ev_var rfl) ev_cst (ne_empty wok)]; simp only [Out.bind_ok]
    show (match some (!decide (SX.S w = ("" : Str))) with
      | some true => _
      | some false => _
      | none => _) = _
    rw [show keepW (.str (SX.S w)) = if SX.S w = ("" : Str) then none else some (.str (SX.S w)) from rfl]
    by_cases z : SX.S w = ("" : Str)
    · rw [decide_eq_true z, if_pos z]; rfl
    · rw [decide_eq_false z, if_neg z]
      show (evE F (.var 4) _ h2).bind _ = _
      rw [ev_var rfl]; rfl
  rw [cmpO_pure (set := setT [4] (wipeE E [4])) (g := keepW) (i := h1.length) (j := h.length) (ds := P) (by omega) st P.length 0 (h1 ++ [O.lst []]) [] (by omega) h1j h1i (by show 0 + P.length ≤ LIM; unfold LIM; omega)]
  have fm : (P.drop 0).filterMap keepW = wsD (wds a) := split_wds a
  rw [List.nil_append, fm]
  show Out.ok (D.obj h1.length) ((h1 ++ [O.lst []]).set h1.length (.lst (wsD (wds a)))) = _
  rw [l1, ← l1]
  simp [h1]
  rfl
/-- the rows so far -/
structure RowsOk (h : List O) (objs : List D) (as : List (List Nat)) : Prop where
  at_ : h[0]? = some (.lst objs)
  len : objs.length = as.length
  its : ∀ (k : Nat) (a : List Nat), as[k]? = some a → ∃ i, objs[k]? = some (.obj i) ∧ i ≠ 0 ∧ h[i]? = some (.lst (wsD (wds a)))
theorem rows_cmp : ∀ (as : List (List Nat)) (h : List O) (objs : List D) (pre : List (List Nat)), (∀ a ∈ as, good a) → RowsOk h objs pre → pre.length + as.length ≤ 1000 → ∃ h' objs', cmpL (setT [3] (wipeE [e0, e1, e2, none, none] [3])) (elI false (evE F (.cst (.bl true))) (evE F inE)) 0 (rowsD as) h = .ok () h' ∧ RowsOk h' objs' (pre ++ as)
  | [], h, objs, pre, _, R, _ => ⟨h, objs, rfl, by rw [List.append_nil]; exact R⟩
  | a :: as, h, objs, pre, g, R, hl => by
    have ga := g a (by simp)
    let h1 := h ++ [O.lst ((Txt.split (SX.S a) " ").map .str), .lst (wsD (wds a))]
    have l0 : 0 < h.length := (List.getElem?_eq_some_iff.mp R.at_).1
    have at1 : h1[0]? = some (.lst objs) := by rw [List.getElem?_append_left l0]; exact R.at_
    have el : elI false (evE F (.cst (.bl true))) (evE F inE) [e0, e1, e2, some (.str (SX.S a)), none] h = .ok (some (.obj (h.length + 1))) h1 := by
      unfold elI
      rw [if_neg Bool.false_ne_true, in_ok ga]; rfl
    have R2 : RowsOk (h1.set 0 (.lst (objs ++ [.obj (h.length + 1)]))) (objs ++ [.obj (h.length + 1)]) (pre ++ [a]) := by
      refine ⟨List.getElem?_set_self (by simp [h1]), by rw [List.length_append, List.length_append, R.len]; rfl, fun k b hk => ?_⟩
      by_cases q : k < pre.length
      · rw [List.getElem?_append_left q] at hk
        obtain ⟨i, i1, i2, i3⟩ := R.its k b hk
        refine ⟨i, by rw [List.getElem?_append_left (by rw [R.len]; exact q)]; exact i1, i2, ?_⟩
        rw [List.getElem?_set_ne (Ne.symm i2), List.getElem?_append_left (List.getElem?_eq_some_iff.mp i3).1]; exact i3
      · rw [List.getElem?_append_right (by omega)] at hk
        have k0 : k - pre.length = 0 := by
          have := (List.getElem?_eq_some_iff.mp hk).1
          simp at this; omega
        rw [k0] at hk
        have : b = a := by simpa using hk.symm
        subst this
        refine ⟨h.length + 1, by rw [List.getElem?_append_right (by rw [R.len]; omega), R.len, k0]; rfl, by omega, ?_⟩
        rw [List.getElem?_set_ne (by omega), List.getElem?_append_right (by omega), show h.length + 1 - h.length = 1 by omega]; rfl
    obtain ⟨h', objs', e, R'⟩ := rows_cmp as _ _ (pre ++ [a]) (fun b hb => g b (by simp [hb])) R2 (by rw [List.length_append]; simp only [List.length_cons, List.length_nil] at hl ⊢; omega)
    refine ⟨h', objs', ?_, by rw [List.append_assoc] at R'; exact R'⟩
    show cmpL _ _ 0 (.str (SX.S a) :: rowsD as) h = _
    rw [cmpL]
    show (match some ([e0, e1, e2, some (.str (SX.S a)), none] : En) with
      | some en => (elI false (evE F (.cst (.bl true))) (evE F inE) en h).bind fun y h => match putL 0 y h with
        | some h => cmpL (setT [3] (wipeE [e0, e1, e2, none, none] [3])) (elI false (evE F (.cst (.bl true))) (evE F inE)) 0 (rowsD as) h
        | none => .stuck
      | none => .stuck) = _
    simp only
    rw [el]; simp only [Out.bind_ok]
    rw [put_some at1 (by rw [R.len]; simp only [List.length_cons] at hl; unfold LIM; omega)]
    exact e
theorem rows_ok {as : List (List Nat)} (g : ∀ a ∈ as, good a) (hl : as.length ≤ 100) : ∃ h' objs, evE F (.comp [3] [3] false (.var 0) (.cst (.bl true)) inE) [some (.lsF (rowsD as)), none, none, none, none] [] = .ok (.obj 0) h' ∧ RowsOk h' objs as := by
  obtain ⟨h', objs, e, R⟩ := rows_cmp (F := F) (e0 := some (.lsF (rowsD as))) (e1 := none) (e2 := none) as [.lst []] [] [] g ⟨rfl, rfl, fun k a hk => by simp at hk⟩ (by simp; omega)
  refine ⟨h', objs, ?_, R⟩
  have c : cmpL (setT [3] (wipeE [some (.lsF (rowsD as)), none, none, none, none] [3])) (elI false (evE F (.cst (.bl true))) (evE F inE)) 0 (rowsD as) ([] ++ [.lst []]) = .ok () h' := e
  rw [evE, ev_var (d := .lsF (rowsD as)) rfl]; simp only [Out.bind_ok]
  show cmpE 0 (cmpL (setT [3] (wipeE [some (.lsF (rowsD as)), none, none, none, none] [3])) (elI false (evE F (.cst (.bl true))) (evE F inE)) 0 (rowsD as) ([] ++ [.lst []])) = _
  rw [c]; rfl
end
end Law_k11

set_option Elab.async false
set_option linter.all false
set_option maxRecDepth 100000
set_option maxHeartbeats 4000000
/-! TxU: what is due by the law; what the program tells it. -/
namespace Law_k11
open PySem PySem.Spec PyProof.Rows L2 Mi TL
/-- what an answer looks like: apart, brought back -/
def RR.d : RR → D
  | .bad l k => .lsF [.str "line", .int (l : Nat), .int (k : Nat)]
  | .ok g t w => .tup [.sale (gT g) (tT t), w.d]
/-- an answer on objects -/
def RR.is (r : RR) (o : Out D) : Prop := match r with
  | .bad l k => ∃ i h, o = .ok (.obj i) h ∧ h[i]? = some (.lst [.str "line", .int (l : Nat), .int (k : Nat)])
  | .ok g t w => ∃ h, o = .ok (.tup [.sale (gT g) (tT t), w.d]) h
theorem pure_tw (g t : Bool) (w : Ws) : pureD (.tup [.sale (gT g) (tT t), w.d]) = true := by
  show (true && (pureD w.d && true)) = true
  rw [pure_w]; rfl
theorem RR.bring {r : RR} {o : Out D} (h : List O) (x : r.is o) : bring o h = .ok r.d h := by
  cases r with
  | bad l k =>
    obtain ⟨i, h1, rfl, e⟩ := x
    show (match backD (.obj i) h1 with
      | some d => Out.ok d h
      | none => .stuck) = _
    have : backD (.obj i) h1 = some (.lsF [.str "line", .int (l : Nat), .int (k : Nat)]) := by
      unfold backD
      rw [backA]
      rw [if_neg (show ¬ pureD (.obj i) = true from Bool.false_ne_true)]
      simp only [e]
      rfl
    rw [this]; rfl
  | ok g t w =>
    obtain ⟨h1, rfl⟩ := x
    show (match backD (.tup [.sale (gT g) (tT t), w.d]) h1 with
      | some d => Out.ok d h
      | none => .stuck) = _
    have : backD (.tup [.sale (gT g) (tT t), w.d]) h1 = some (.tup [.sale (gT g) (tT t), w.d]) := by
      unfold backD
      rw [backA, if_pos (pure_tw g t w)]
    rw [this]; rfl
theorem e_apIs {F : Fns} {en en2 : En} {h : List O} {vs : List Nat} {A : E} {r : RR} (hz : frzE h en vs (List.replicate en.length none) = some en2) (hA : r.is (evE F A en2 [])) : evE F (.apE vs A) en h = .ok r.d h := by
  rw [evE, hz]; simp only
  exact RR.bring h hA
/-! told -/
section
variable {m : Nat}
theorem told_ok {x : Str} {r : RR} {h' : List O} (e : (AT (m + 1)).fn i_read [.str x] [] = r.out h') : r.is ((AT (m + 2)).fn i__law_told [.str x] []) := by
  cases r with
  | ok g t w =>
    refine ⟨h', fn_rt (m := m + 1) (b := B__law_told) rfl rfl ?_⟩
    refine ss_nx (en1 := [some (.str x), some .non, none]) (s_asg ev_cst) (ss_nx (en1 := [some (.str x), some (.tup [.sale (gT g) (tT t), w.d]), none]) (s_tryO (ss_nx (s_asg (ev_call (es_cons (ev_var rfl) es_nil) e)) ss_nil)) ?_)
    exact ss_rt (s_ret (ev_var rfl))
  | bad l k =>
    have c : evE (AT (m + 1)) (.call i_read (.cons (.var 0) .nil)) [some (.str x), some .non, none] [] = .exc (BL (l : Nat) ((k : Nat) : Int)) h' := ev_call (es_cons (ev_var rfl) es_nil) e
    refine ⟨h'.length, h' ++ [.lst [.str "line", .int (l : Nat), .int (k : Nat)]], fn_rt (m := m + 1) (b := B__law_told) rfl rfl ?_, by simp⟩
    refine ss_nx (en1 := [some (.str x), some .non, none]) (s_asg ev_cst) (ss_nx (en1 := [some (.str x), some (.obj h'.length), none]) (s_tryX (ss_x (s_asgx c)) ?_) (ss_rt (s_ret (ev_var rfl))))
    kernel_rfl
end
/-! due -/
/-- a wish's numbers -/
def numsW : Ws → List Nat
  | .L j => [j]
  | .H => []
  | .T => []
  | .R a b => [a, b]
theorem wishC_eq (w : Ws) : wishC w = cds "wish" :: cds (kindS w) :: (numsW w).map numL := by cases w <;> rfl
theorem wd_eq (w : Ws) : w.d = .tup (.str (kindS w) :: (numsW w).map fun j => .int (j : Nat)) := by cases w <;> rfl
theorem numsW_le {w : Ws} (h : w.fit) : ∀ j ∈ numsW w, j ≤ 300 := by
  cases w with
  | L j =>
    intro i hi
    have : i = j := by simpa [numsW] using hi
    subst this
    exact h.2 i rfl
  | H => intro i hi; simp [numsW] at hi
  | T => intro i hi; simp [numsW] at hi
  | R a b =>
    have hab : 1 ≤ a ∧ a ≤ 4 ∧ b ≤ a - 1 := by
      have z : ∀ p ∈ rowsN, 1 ≤ p.1 ∧ p.1 ≤ 4 ∧ p.2 ≤ p.1 - 1 := by decide
      exact z (a, b) h.1
    intro i hi
    simp only [numsW, List.mem_cons, List.not_mem_nil, or_false] at hi
    rcases hi with rfl | rfl <;> omega
def intG : D → Option D
  | .str s => (intText? s).map D.int
  | d => some d
theorem ints_map : ∀ l : List Nat, (∀ j ∈ l, j ≤ 300) → (wsD (l.map numL)).filterMap intG = l.map fun j => D.int (j : Nat)
  | [], _ => rfl
  | j :: l, h => by
    show ((D.str (SX.S (numL j))) :: wsD (l.map numL)).filterMap intG = _
    rw [List.filterMap_cons]
    have : intG (.str (SX.S (numL j))) = some (.int (j : Nat)) := by
      show (intText? (SX.S (numL j))).map D.int = _
      rw [← numS_S, num_int (by have := h j (by simp); omega)]; rfl
    rw [this]; simp only
    rw [ints_map l (fun i hi => h i (by simp [hi]))]; rfl
theorem nil_l1 : ∀ L ∈ lists1, [] ∉ L := by decide +kernel
theorem num_ne0 (lo n : Nat) : [] ∉ nums lo n := fun h => by
  obtain ⟨j, _, _, e⟩ := mem_nums.mp h
  exact numL_ne j e.symm
theorem nil_l2 (ws : List Wd) : ∀ L ∈ lists2 ws, [] ∉ L := by
  intro L hL
  unfold lists2 at hL
  rcases List.mem_cons.mp hL with rfl | hL
  · decide +kernel
  rcases List.mem_cons.mp hL with rfl | hL
  · decide +kernel
  unfold moreL at hL
  split at hL
  · have : L = nums 0 301 := by simpa using hL
    subst this; exact num_ne0 _ _
  · split at hL
    · rcases List.mem_cons.mp hL with rfl | hL
      · exact num_ne0 _ _
      · have hL : L = (if wAt ws 2 ∈ nums 1 4 then nums 0 (valW (wAt ws 2)) else []) := by simpa using hL
        subst hL
        split
        · exact num_ne0 _ _
        · simp
    · simp at hL
theorem len_l2 (ws : List Wd) : (lists2 ws).length ≤ 900 := by
  unfold lists2 moreL
  split
  · show 3 ≤ 900; decide
  · split
    · show 4 ≤ 900; decide
    · show 2 ≤ 900; decide
def lists1D : D := .lsF [.lsF [.str "sale"], .lsF [.str "other", .str "house"], .lsF [.str "one", .str "other"]]
theorem l1_ok (h : List O) : LsOk h lists1D lists1 := by
  refine ⟨_, rfl, rfl, fun k L hk => ?_⟩
  match k, hk with
  | 0, hk => cases hk; exact ⟨_, rfl, by unfold sale1; rw [lit1]; rfl⟩
  | 1, hk => cases hk; exact ⟨_, rfl, by unfold getsL; rw [lit2]; rfl⟩
  | 2, hk => cases hk; exact ⟨_, rfl, by unfold tiesL; rw [lit2]; rfl⟩
  | k + 3, hk => simp [lists1] at hk
section
variable {m : Nat} {as : List (List Nat)} {h h1 : List O} {objs : List D} {F : Fns}
theorem RowsOk.mono (R : RowsOk h objs as) (x : Ap h h1) : RowsOk h1 objs as := ⟨x.at_ R.at_, R.len, fun k a hk => by
  obtain ⟨i, e1, e2, e3⟩ := R.its k a hk
  exact ⟨i, e1, e2, x.at_ e3⟩⟩
/-- the k-th row -/
theorem RowsOk.row (R : RowsOk h objs as) {k : Nat} {a : List Nat} (hk : as[k]? = some a) {en : En} (he : en[1]? = some (some (.obj 0))) : ∃ i, evE F (.idx (.var 1) (.cst (.int (k : Nat)))) en h = .ok (.obj i) h ∧ h[i]? = some (.lst (wsD (wds a))) := by
  obtain ⟨i, e1, _, e3⟩ := R.its k a hk
  exact ⟨i, ev_idx (ev_var he) ev_cst (by have z := R.at_; simp only [idxI, itemsOf, z]; exact atI_nat e1), e3⟩
theorem RowsOk.ln (R : RowsOk h objs as) {en : En} (he : en[1]? = some (some (.obj 0))) : evE F (.bf .len (.cons (.var 1) .nil)) en h = .ok (.int (as.length : Nat)) h := e_bf (es_cons (ev_var he) es_nil) (by have z := R.at_; simp only [bfI, itemsOf, z, R.len])
abbrev EnD (as : List (List Nat)) (f : Option D) : En := [some (.lsF (rowsD as)), some (.obj 0), f, none, none]
theorem eL1 {en : En} : evE F (.lstF (.cons (.lstF (.cons (.cst (.str "sale")) .nil)) (.cons (.lstF (.cons (.cst (.str "other")) (.cons (.cst (.str "house")) .nil))) (.cons (.lstF (.cons (.cst (.str "one")) (.cons (.cst (.str "other")) .nil))) .nil)))) en h = .ok lists1D h :=
  e_lstF (es_cons (e_lstF (es_cons ev_cst es_nil) (lim3 rfl)) (es_cons (e_lstF (es_cons ev_cst (es_cons ev_cst es_nil)) (lim3 rfl)) (es_cons (e_lstF (es_cons ev_cst (es_cons ev_cst es_nil)) (lim3 rfl)) es_nil))) (lim3 rfl)
theorem ret_bad {l k : Nat} {en : En} {A B : E} {ss : Ss} (hA : evE F A en h = .ok (.int (l : Nat)) h) (hB : evE F B en h = .ok (.int (k : Nat)) h) : evSs F (.cons (.ret (.lst (.cons (.cst (.str "line")) (.cons A (.cons B .nil))))) ss) en h = .rt (.obj h.length) (h ++ [.lst [.str "line", .int (l : Nat), .int (k : Nat)]]) :=
  ss_rt (s_ret (e_lst (es_cons ev_cst (es_cons hA (es_cons hB es_nil))) (lim3 rfl)))
theorem s_iteT1 {F : Fns} {c : E} {P Q : Ss} {en : En} {h h1 : List O} {o : OS} (hc : evE F c en h = .ok (.bl true) h1) (hP : evSs F P en h1 = o) : evS F (.ite c P Q) en h = o := s_ite (b := true) (evT_bl hc) (by rw [if_pos rfl]; exact hP)
theorem due_ok (g : ∀ a ∈ as, good a) (hl : as.length ≤ 100) {r : RR} (D1 : Due (as.map wds) r) : r.is ((AT (m + 4)).fn i__law_due [.lsF (rowsD as)] []) := by
  obtain ⟨h1, objs, e1, R1⟩ := rows_ok (F := AT (m + 3)) g hl
  -- a row's first fault
  obtain ⟨rows, hr⟩ : ∃ rows, rows = as.map wds := ⟨_, rfl⟩
  rw [← hr] at D1
  have ne : ∃ a0, as[0]? = some a0 := by
    cases as with
    | nil => cases D1 <;> simp at hr
    | cons a0 as => exact ⟨a0, rfl⟩
  obtain ⟨a0, k0⟩ := ne
  have ga0 := g a0 (List.mem_of_getElem? k0)
  obtain ⟨i0, r0, at0⟩ := R1.row (F := AT (m + 3)) k0 (en := EnD as none) rfl
  obtain ⟨h2, e2, x2⟩ := first_ok (m := m + 2) (ls := lists1) (ws := wds a0) (by decide) (by have := wds_len ga0; omega) nil_l1 at0 (l1_ok h1)
  have R2 := R1.mono x2
  have hd : ∀ {o : OS}, evSs (AT (m + 3)) (.cons (nthS 2 B__law_due) (.cons (nthS 3 B__law_due) (.cons (nthS 4 B__law_due) (.cons (nthS 5 B__law_due) (.cons (nthS 6 B__law_due) (.cons (nthS 7 B__law_due) .nil)))))) (EnD as (some (.int (firstAt (wds a0) 0 lists1 : Nat)))) h2 = o → evSs (AT (m + 3)) B__law_due [some (.lsF (rowsD as)), none, none, none, none] [] = o := fun e =>
    ss_nx (s_asg e1) (ss_nx (s_asg (ev_call (es_cons r0 (es_cons eL1 es_nil)) e2)) e)
  have m0 : rows[0]? = some (wds a0) := by rw [hr, List.getElem?_map, k0]; rfl
  by_cases f0 : firstAt (wds a0) 0 lists1 = 0
  case neg =>
    have dr : ∃ k, firstAt (wds a0) 0 lists1 = k + 1 ∧ r = .bad 1 (k + 1) := by
      cases D1 with
      | c1 h => simp at m0; subst m0; exact ⟨_, h, rfl⟩
      | c2 h => simp at m0; subst m0; exact absurd h f0
      | c3 h => simp at m0; subst m0; exact absurd h f0
      | c4 h => simp at m0; subst m0; exact absurd h f0
      | c5 h => simp at m0; rw [← m0] at f0; exact absurd h f0
    obtain ⟨k, ek, rfl⟩ := dr
    rw [ek] at hd
    refine ⟨h2.length, _, fn_rt (m := m + 3) (b := B__law_due) rfl rfl (hd (ss_rt (s_iteT1 (ev_cmp (ev_var rfl) ev_cst (cmp_gt_t (by omega))) (ret_bad (l := 1) (k := k + 1) ev_cst (ev_var rfl))))), by simp⟩
  rw [f0] at hd
  have hd3 : ∀ {o : OS}, evSs (AT (m + 3)) (.cons (nthS 3 B__law_due) (.cons (nthS 4 B__law_due) (.cons (nthS 5 B__law_due) (.cons (nthS 6 B__law_due) (.cons (nthS 7 B__law_due) .nil))))) (EnD as (some (.int ((0 : Nat) : Int)))) h2 = o → evSs (AT (m + 3)) B__law_due [some (.lsF (rowsD as)), none, none, none, none] [] = o := fun e =>
    hd (ss_nx (retN (ev_cmp (ev_var rfl) ev_cst (cmp_gt_f (by decide))) rfl) e)
  have l0 : 0 < as.length := (List.getElem?_eq_some_iff.mp k0).1
  by_cases l2 : as.length < 2
  · have dr : r = .bad 2 1 := by
      have ml : rows.length = 1 := by rw [hr, List.length_map]; omega
      cases D1 with
      | c1 h => simp at m0; subst m0; rw [f0] at h; cases h
      | c2 h => rfl
      | c3 h => simp at ml
      | c4 h => simp at ml
      | c5 h => simp at ml
    subst dr
    refine ⟨h2.length, _, fn_rt (m := m + 3) (b := B__law_due) rfl rfl (hd3 (ss_rt (s_iteT1 (ev_cmp (R2.ln rfl) ev_cst (cmp_lt_t (by omega))) (ret_bad (l := 2) (k := 1) ev_cst ev_cst)))), by simp⟩
  obtain ⟨a1, k1⟩ : ∃ a1, as[1]? = some a1 := ⟨_, List.getElem?_eq_getElem (by omega)⟩
  have ga1 := g a1 (List.mem_of_getElem? k1)
  have m1 : rows[1]? = some (wds a1) := by rw [hr, List.getElem?_map, k1]; rfl
  obtain ⟨i1, r1, at1⟩ := R2.row (F := AT (m + 3)) k1 (en := EnD as (some (.int ((0 : Nat) : Int)))) rfl
  have lw1 : (wds a1).length ≤ 1000 := by have := wds_len ga1; omega
  obtain ⟨fL, h3, e3, x3, L3⟩ := lists_ok (m := m + 2) (wds_WL ga1) lw1 at1 (by omega)
  obtain ⟨h4, e4, x4⟩ := first_ok (m := m + 2) (len_l2 _) lw1 (nil_l2 _) (x3.at_ at1) L3
  have R4 := R2.mono (x3.trans x4)
  have hd5 : ∀ {o : OS}, evSs (AT (m + 3)) (.cons (nthS 5 B__law_due) (.cons (nthS 6 B__law_due) (.cons (nthS 7 B__law_due) .nil))) (EnD as (some (.int (firstAt (wds a1) 0 (lists2 (wds a1)) : Nat)))) h4 = o → evSs (AT (m + 3)) B__law_due [some (.lsF (rowsD as)), none, none, none, none] [] = o := fun e =>
    hd3 (ss_nx (retN (ev_cmp (R2.ln rfl) ev_cst (cmp_lt_f (by omega))) rfl) (ss_nx (s_asg (ev_call (es_cons r1 (es_cons (ev_call (es_cons r1 es_nil) e3) es_nil)) e4)) e))
  by_cases f1 : firstAt (wds a1) 0 (lists2 (wds a1)) = 0
  case neg =>
    have dr : ∃ k, firstAt (wds a1) 0 (lists2 (wds a1)) = k + 1 ∧ r = .bad 2 (k + 1) := by
      cases D1 with
      | c1 h => simp at m0; subst m0; rw [f0] at h; cases h
      | c2 h => simp at m1
      | c3 h h2 => simp at m1; subst m1; exact ⟨_, h2, rfl⟩
      | c4 h h2 => simp at m1; subst m1; exact absurd h2 f1
      | c5 h h2 => simp at m1; rw [← m1] at f1; exact absurd h2 f1
    obtain ⟨k, ek, rfl⟩ := dr
    rw [ek] at hd5
    refine ⟨h4.length, _, fn_rt (m := m + 3) (b := B__law_due) rfl rfl (hd5 (ss_rt (s_iteT1 (ev_cmp (ev_var rfl) ev_cst (cmp_gt_t (by omega))) (ret_bad (l := 2) (k := k + 1) ev_cst (ev_var rfl))))), by simp⟩
  rw [f1] at hd5
  have hd6 : ∀ {o : OS}, evSs (AT (m + 3)) (.cons (nthS 6 B__law_due) (.cons (nthS 7 B__law_due) .nil)) (EnD as (some (.int ((0 : Nat) : Int)))) h4 = o → evSs (AT (m + 3)) B__law_due [some (.lsF (rowsD as)), none, none, none, none] [] = o := fun e =>
    hd5 (ss_nx (retN (ev_cmp (ev_var rfl) ev_cst (cmp_gt_f (by decide))) rfl) e)
  by_cases l3 : 2 < as.length
  · have dr : r = .bad 3 1 := by
      have ml : 2 < rows.length := by rw [hr, List.length_map]; omega
      cases D1 with
      | c1 h => simp at m0; subst m0; rw [f0] at h; cases h
      | c2 h => simp at m1
      | c3 h h2 => simp at m1; subst m1; rw [f1] at h2; cases h2
      | c4 h h2 => rfl
      | c5 h h2 => simp at ml
    subst dr
    refine ⟨h4.length, _, fn_rt (m := m + 3) (b := B__law_due) rfl rfl (hd6 (ss_rt (s_iteT1 (ev_cmp (R4.ln rfl) ev_cst (cmp_gt_t (by omega))) (ret_bad (l := 3) (k := 1) ev_cst ev_cst)))), by simp⟩
  have dr : ∃ gg tt w, r = .ok gg tt w ∧ wds a0 = saleC gg tt ∧ wds a1 = wishC w ∧ w.fit := by
    have ml : rows.length = 2 := by rw [hr, List.length_map]; omega
    cases D1 with
    | c1 h => simp at m0; subst m0; rw [f0] at h; cases h
    | c2 h => simp at m1
    | c3 h h2 => simp at m1; subst m1; rw [f1] at h2; cases h2
    | c4 h h2 => simp at ml
    | c5 h h2 wf => simp at m0 m1; exact ⟨_, _, _, rfl, m0.symm, m1.symm, wf⟩
  obtain ⟨gg, tt, w, rfl, s0, s1, wf⟩ := dr
  let En4 : En := EnD as (some (.int ((0 : Nat) : Int)))
  obtain ⟨j0, q0, b0⟩ := R4.row (F := AT (m + 3)) k0 (en := En4) rfl
  obtain ⟨j1, q1, b1⟩ := R4.row (F := AT (m + 3)) k1 (en := En4) rfl
  rw [s0] at b0
  rw [s1] at b1
  have u1 : evE (AT (m + 3)) (.idx (.idx (.var 1) (.cst (.int 0))) (.cst (.int 1))) En4 h4 = .ok (.str (gT gg)) h4 := ev_idx q0 ev_cst (by
    simp only [idxI, itemsOf, b0]
    rw [show (D.str (gT gg)) = .str (SX.S (cds (gT gg))) by rw [S_cds]]; exact atI_nat (j := 1) rfl)
  have u2 : evE (AT (m + 3)) (.idx (.idx (.var 1) (.cst (.int 0))) (.cst (.int 2))) En4 h4 = .ok (.str (tT tt)) h4 := ev_idx q0 ev_cst (by
    simp only [idxI, itemsOf, b0]
    rw [show (D.str (tT tt)) = .str (SX.S (cds (tT tt))) by rw [S_cds]]; exact atI_nat (j := 2) rfl)
  have u3 : evE (AT (m + 3)) (.idx (.idx (.var 1) (.cst (.int 1))) (.cst (.int 1))) En4 h4 = .ok (.str (kindS w)) h4 := ev_idx q1 ev_cst (by
    simp only [idxI, itemsOf, b1]
    rw [show (D.str (kindS w)) = .str (SX.S (cds (kindS w))) by rw [S_cds], wishC_eq]; exact atI_nat (j := 1) rfl)
  let h5 := h4 ++ [O.lst (wsD ((numsW w).map numL))]
  have u4 : evE (AT (m + 3)) (.slT (.idx (.var 1) (.cst (.int 1))) (.cst (.int 2))) En4 h4 = .ok (.obj h4.length) h5 := by
    have q1 : evE (AT (m + 3)) (.idx (.var 1) (.cst (.int 1))) En4 h4 = .ok (.obj j1) h4 := q1
    rw [evE, q1]; simp only [Out.bind_ok]
    rw [ev_cst]; simp only [Out.bind_ok]
    show slI (.obj j1) (some 2) none h4 = _
    unfold slI
    rw [if_pos (show isList (.obj j1) = true from rfl)]
    simp only [itemsOf, b1]
    have : cutL (wsD (wishC w)) (some 2) none = wsD ((numsW w).map numL) := by
      rw [wishC_eq]
      cases w <;> rfl
    rw [this]; rfl
  have lN : (numsW w).length ≤ 2 := by cases w <;> simp [numsW]
  have u5 : evE (AT (m + 3)) (.comp [4] [4] false (.slT (.idx (.var 1) (.cst (.int 1))) (.cst (.int 2))) (.cst (.bl true)) (.bf .int (.cons (.var 4) .nil))) En4 h4 = .ok (.obj h5.length) (h5 ++ [.lst ((numsW w).map fun j => D.int (j : Nat))]) := by
    rw [evE, u4]; simp only [Out.bind_ok]
    have hj : h5[h4.length]? = some (.lst (wsD ((numsW w).map numL))) := by simp [h5]
    show cmpE h5.length (match h5[h4.length]? with
      | some (.lst ds) => cmpO h4.length (setT [4] (wipeE En4 [4])) (elI false (evE (AT (m + 3)) (.cst (.bl true))) (evE (AT (m + 3)) (.bf .int (.cons (.var 4) .nil)))) h5.length (ds.length + 1) 0 (h5 ++ [.lst []])
      | _ => .stuck) = _
    rw [hj]; simp only
    have lh : h5.length = h4.length + 1 := by simp [h5]
    have h5j : (h5 ++ [O.lst []])[h4.length]? = some (.lst (wsD ((numsW w).map numL))) := by rw [List.getElem?_append_left (by omega)]; exact hj
    rw [cmpO_pure (set := setT [4] (wipeE En4 [4])) (g := intG) (i := h5.length) (j := h4.length) (ds := wsD ((numsW w).map numL)) (by omega) (fun d hd => by
      obtain ⟨u, hu, rfl⟩ := List.mem_map.mp hd
      obtain ⟨j, hj, rfl⟩ := List.mem_map.mp hu
      have j3 := numsW_le wf j hj
      refine ⟨[some (.lsF (rowsD as)), some (.obj 0), some (.int ((0 : Nat) : Int)), none, some (.str (SX.S (numL j)))], rfl, fun h2 => ?_⟩
      unfold elI
      have bi : bfI .int [.str (SX.S (numL j))] h2 = .ok (.int (j : Nat)) h2 := by
        rw [← numS_S]
        simp only [bfI, num_int (show j ≤ 1000 by omega)]
        rw [if_pos (num_len (by omega))]
      have gi : intG (.str (SX.S (numL j))) = some (.int (j : Nat)) := by
        show (intText? (SX.S (numL j))).map D.int = _
        rw [← numS_S, num_int (by omega)]; rfl
      rw [if_neg Bool.false_ne_true, e_bf (es_cons (ev_var rfl) es_nil) bi, gi]; rfl) (wsD ((numsW w).map numL)).length 0 (h5 ++ [O.lst []]) [] (by omega) h5j (by simp) (by show 0 + _ ≤ LIM; rw [wsD_len, List.length_map]; unfold LIM; omega)]
    rw [List.drop_zero, List.nil_append, ints_map _ (numsW_le wf)]
    show Out.ok (D.obj h5.length) ((h5 ++ [O.lst []]).set h5.length (.lst ((numsW w).map fun j => D.int (j : Nat)))) = _
    simp
  have u6 : evE (AT (m + 3)) (.bin .add (.tup (.cons (.idx (.idx (.var 1) (.cst (.int 1))) (.cst (.int 1))) .nil)) (.bf .tuple (.cons (.comp [4] [4] false (.slT (.idx (.var 1) (.cst (.int 1))) (.cst (.int 2))) (.cst (.bl true)) (.bf .int (.cons (.var 4) .nil))) .nil))) En4 h4 = .ok w.d (h5 ++ [.lst ((numsW w).map fun j => D.int (j : Nat))]) := by
    refine ev_bin (e_tup (es_cons u3 es_nil) (lim3 rfl)) (e_bf (es_cons u5 es_nil) (show bfI .tuple [.obj h5.length] (h5 ++ [.lst ((numsW w).map fun j => D.int (j : Nat))]) = .ok (.tup ((numsW w).map fun j => D.int (j : Nat))) _ by simp only [bfI]; rw [List.getElem?_concat_length])) ?_
    show (if ([D.str (kindS w)]).length + ((numsW w).map fun j => D.int (j : Nat)).length ≤ LIM then Out.ok (D.tup ([D.str (kindS w)] ++ (numsW w).map fun j => D.int (j : Nat))) _ else .stuck) = _
    rw [if_pos (by rw [List.length_map]; show 1 + _ ≤ LIM; unfold LIM; omega), wd_eq]; rfl
  exact ⟨_, fn_rt (m := m + 3) (b := B__law_due) rfl rfl (hd6 (ss_nx (retN (ev_cmp (R4.ln rfl) ev_cst (cmp_gt_f (by omega))) rfl) (ss_rt (s_ret (e_tup (es_cons (e_mkSale u1 u2 (mkS_ok gg tt h4)) (es_cons u6 es_nil)) (lim3 rfl))))))⟩
end
end Law_k11

set_option Elab.async false
set_option linter.all false
set_option maxRecDepth 100000
set_option maxHeartbeats 4000000
/-! TxV: lists of words cut and joined; a line that is spoilt. -/
namespace Law_k11
open PySem PySem.Spec PyProof.Rows L2 Mi TL
def tot : List Wd → Nat
  | [] => 0
  | p :: r => p.length + 1 + tot r
theorem tot_app : ∀ a b : List Wd, tot (a ++ b) = tot a + tot b
  | [], b => by simp [tot]
  | p :: a, b => by
    show p.length + 1 + tot (a ++ b) = p.length + 1 + tot a + tot b
    rw [tot_app a b]; omega
theorem tot_take (a : List Wd) (n : Nat) : tot (a.take n) ≤ tot a := by
  have := tot_app (a.take n) (a.drop n)
  rw [List.take_append_drop] at this; omega
theorem tot_drop (a : List Wd) (n : Nat) : tot (a.drop n) ≤ tot a := by
  have := tot_app (a.take n) (a.drop n)
  rw [List.take_append_drop] at this; omega
theorem tot_mem {p : Wd} : ∀ {a : List Wd}, p ∈ a → p.length + 1 ≤ tot a
  | q :: a, h => by
    rcases List.mem_cons.mp h with rfl | h
    · show p.length + 1 ≤ p.length + 1 + tot a; omega
    · have := tot_mem h
      show _ ≤ q.length + 1 + tot a; omega
theorem join_tot : ∀ ws : List Wd, (joinL [32] ws).length ≤ tot ws
  | [] => by simp [joinL]
  | [p] => by simp [joinL, tot]
  | p :: q :: r => by
    have e : joinL [32] (p :: q :: r) = p ++ ([32] ++ joinL [32] (q :: r)) := by simp [joinL]
    have := join_tot (q :: r)
    rw [e]
    simp only [List.length_append, List.length_cons, List.length_nil]
    show _ ≤ p.length + 1 + tot (q :: r)
    omega
theorem tot_spl : ∀ (n : Nat) (a : List Nat), a.length ≤ n → tot (spl [32] 0 [] a) ≤ a.length + 1
  | n, a, hn => by
    rcases first32 a with h | ⟨q, r, rfl, hq⟩
    · have e : spl [32] 0 [] (joinL [32] [a]) = [a] := SX.spl_join (by simp) (fun q hq => by
        have : q = a := by simpa using hq
        rw [this]; exact h)
      rw [show joinL [32] [a] = a by simp [joinL]] at e
      rw [e]; simp [tot]
    · have e : spl [32] 0 [] (q ++ ([32] ++ r)) = q :: spl [32] 0 [] r := SX.spl_free r (by simp) (SX.free_head hq)
      rw [show q ++ 32 :: r = q ++ ([32] ++ r) from rfl, e]
      cases n with
      | zero => simp at hn
      | succ n =>
        have := tot_spl n r (by rw [List.length_append, List.length_cons] at hn; omega)
        show q.length + 1 + tot (spl [32] 0 [] r) ≤ _
        simp; omega
theorem spl_ne (a : List Nat) : spl [32] 0 [] a ≠ [] := by
  rcases first32 a with h | ⟨q, r, rfl, hq⟩
  · have e : spl [32] 0 [] (joinL [32] [a]) = [a] := SX.spl_join (by simp) (fun q hq => by
      have : q = a := by simpa using hq
      rw [this]; exact h)
    rw [show joinL [32] [a] = a by simp [joinL]] at e
    rw [e]; simp
  · have e : spl [32] 0 [] (q ++ ([32] ++ r)) = q :: spl [32] 0 [] r := SX.spl_free r (by simp) (SX.free_head hq)
    rw [show q ++ 32 :: r = q ++ ([32] ++ r) from rfl, e]; simp
/-- codes that a line may have -/
def cok (a : List Nat) : Prop := ∀ c ∈ a, c < 128 ∧ c ≠ 10
theorem cok_join {ws : List Wd} (h : ∀ p ∈ ws, cok p) : cok (joinL [32] ws) := fun c hc => by
  rcases join_mem ws c hc with rfl | ⟨p, hp, hc⟩
  · decide
  · exact h p hp c hc
/-! expressions on lists of words -/
theorem hg2 {h : List O} (hg : Hg h) : 2 ≤ h.length := by
  obtain ⟨_, _, _, _, _, _, _, z⟩ := hg
  have := (List.getElem?_eq_some_iff.mp z).1
  omega
theorem Nx.at_ {h h' : List O} (x : Nx h h') {u : Nat} {o : O} (h2 : 2 ≤ u) (e : h[u]? = some o) : h'[u]? = some o := (x.same u (List.getElem?_eq_some_iff.mp e).1 (by omega)).trans e
def LW (F : Fns) (en : En) (A : E) (h : List O) (ws : List Wd) : Prop := ∃ u h', evE F A en h = .ok (.obj u) h' ∧ 2 ≤ u ∧ h'[u]? = some (.lst (wsD ws)) ∧ Nx h h'
section
variable {F : Fns} {en : En} {A B : E} {es : Es} {h h1 : List O} {ws vs : List Wd} {u v i : Nat}
theorem wsD_take (ws : List Wd) (n : Nat) : (wsD ws).take n = wsD (ws.take n) := by unfold wsD; rw [List.map_take]
theorem wsD_drop (ws : List Wd) (n : Nat) : (wsD ws).drop n = wsD (ws.drop n) := by unfold wsD; rw [List.map_drop]
theorem cut_hi (xs : List D) (i : Nat) : cutL xs none (some (i : Nat)) = xs.take i := by
  unfold cutL
  rw [HT.sIx_none, HT.sIx_nat, List.drop_zero, Nat.sub_zero]
  by_cases h : i ≤ xs.length
  · rw [Nat.min_eq_left h]
  · rw [Nat.min_eq_right (by omega), List.take_length, List.take_of_length_le (by omega)]
theorem cut_lo (xs : List D) (i : Nat) : cutL xs (some (i : Nat)) none = xs.drop i := by
  unfold cutL
  rw [HT.sIx_none, HT.sIx_nat]
  by_cases h : i ≤ xs.length
  · rw [Nat.min_eq_left h, List.take_of_length_le (by rw [List.length_drop]; omega)]
  · rw [Nat.min_eq_right (by omega), Nat.sub_self, List.take_zero, List.drop_of_length_le (by omega)]
theorem w_slH (hg : Hg h) (he : en[v]? = some (some (.obj u))) (hu : h[u]? = some (.lst (wsD ws))) (hB : evE F B en h = .ok (.int (i : Nat)) h) : LW F en (.slH (.var v) B) h (ws.take i) := by
  refine ⟨h.length, h ++ [.lst (wsD (ws.take i))], ?_, hg2 hg, by simp, (Nx.refl hg).new _⟩
  rw [evE, ev_var he]; simp only [Out.bind_ok]
  rw [hB]; simp only [Out.bind_ok]
  unfold slI
  rw [if_pos (show isList (.obj u) = true from rfl)]
  simp only [itemsOf, hu]
  rw [cut_hi, wsD_take]; rfl
theorem w_slT (hg : Hg h) (he : en[v]? = some (some (.obj u))) (hu : h[u]? = some (.lst (wsD ws))) (hB : evE F B en h = .ok (.int (i : Nat)) h) : LW F en (.slT (.var v) B) h (ws.drop i) := by
  refine ⟨h.length, h ++ [.lst (wsD (ws.drop i))], ?_, hg2 hg, by simp, (Nx.refl hg).new _⟩
  rw [evE, ev_var he]; simp only [Out.bind_ok]
  rw [hB]; simp only [Out.bind_ok]
  unfold slI
  rw [if_pos (show isList (.obj u) = true from rfl)]
  simp only [itemsOf, hu]
  rw [cut_lo, wsD_drop]; rfl
theorem w_add (x : LW F en A h ws) (y : ∀ h1, Nx h h1 → LW F en B h1 vs) (hl : ws.length + vs.length ≤ 5000) : LW F en (.bin .add A B) h (ws ++ vs) := by
  obtain ⟨u, h1, e1, u2, at1, x1⟩ := x
  obtain ⟨v, h2, e2, v2, at2, x2⟩ := y h1 x1
  have a2 := x2.at_ u2 at1
  refine ⟨h2.length, h2 ++ [.lst (wsD (ws ++ vs))], ev_bin e1 e2 ?_, hg2 x2.hg, by simp, (x1.trans x2).new _⟩
  simp only [Mi.binI, a2, at2]
  rw [if_pos (by rw [wsD_len, wsD_len]; unfold LIM; omega), ← wsD_app]; rfl
theorem w_lst {w : Wd} (hB : evE F B en h = .ok (.str (SX.S w)) h1) (x : Nx h h1) : LW F en (.lst (.cons B .nil)) h [w] :=
  ⟨h1.length, h1 ++ [.lst (wsD [w])], e_lst (es_cons hB es_nil) (lim3 rfl), hg2 x.hg, by simp, x.new _⟩
theorem so_all (ys : List Wd) : optAll ((wsD ys).map strD) = some (ys.map SX.S) := by
  induction ys with
  | nil => rfl
  | cons y ys ih =>
    show optAll (strD (.str (SX.S y)) :: (wsD ys).map strD) = _
    simp only [strD, optAll, ih]; rfl
theorem joinW {c : Nat} {x : Str} {d : D} {h2 : List O} (hx : x = SX.S [c]) (hA : evE F A en h = .ok d h2) (hi : itemsOf d h2 = some (wsD ws)) (hl : (ws.map List.length).sum + ws.length ≤ 16777216) : evE F (.bm .join (.cst (.str x)) (.cons A .nil)) en h = .ok (.str (SX.S (joinL [c] ws))) h2 := by
  subst hx
  rw [evE, ev_cst]; simp only [Out.bind_ok]
  have bt : bmT .join (.str (SX.S [c])) h = true := rfl
  rw [if_pos bt, es_cons hA es_nil]; simp only [Out.bind_ok, bmI, hi]
  rw [so_all]; simp only
  rw [SX.lens, SX.S_len, List.length_map]
  simp only [List.length_cons, List.length_nil, Nat.zero_add, Nat.mul_one]
  rw [if_pos hl, SX.join_S]
theorem tot_sum : ∀ ws : List Wd, (ws.map List.length).sum + ws.length = tot ws
  | [] => rfl
  | p :: r => by
    have := tot_sum r
    show (p.length + (r.map List.length).sum) + (r.length + 1) = p.length + 1 + tot r
    omega
theorem w_join (x : LW F en A h ws) (hl : tot ws ≤ 5000) : ∃ h', evE F (.bm .join (.cst (.str " ")) (.cons A .nil)) en h = .ok (.str (SX.S (joinL [32] ws))) h' ∧ Nx h h' := by
  obtain ⟨u, h1, e1, u2, at1, x1⟩ := x
  exact ⟨h1, joinW (by decide +kernel) e1 (by simp only [itemsOf, at1]) (by rw [tot_sum]; omega), x1⟩
end
def oddW : List Wd := [[], cds "0", cds "1", cds "2", cds "5", cds "300", cds "301", cds "01", cds "-1", cds "sale", cds "row", cds "half", cds "one", cds "x"]
theorem odd_D : wsD oddW = [.str "", .str "0", .str "1", .str "2", .str "5", .str "300", .str "301", .str "01", .str "-1", .str "sale", .str "row", .str "half", .str "one", .str "x"] := by
  unfold oddW wsD
  simp only [List.map_cons, List.map_nil, S_cds]
  have : (SX.S [] : Str) = "" := by decide +kernel
  rw [this]
theorem odd_ok : ∀ p ∈ oddW, (∀ c ∈ p, c < 128 ∧ c ≠ 10) ∧ p.length ≤ 4 := by decide +kernel
section
variable {k : Nat} {a : List Nat} {h : List O}
abbrev EnS (a : List Nat) (p : Nat) (o : Option D) (i t : Nat) : En := [some (.obj 1), some (.str (SX.S a)), some (.obj p), o, some (.int (i : Nat)), some (.int (t : Nat))]
theorem spoilt_ok (hg : Hg h) (ca : cok a) (hl : a.length ≤ 900) : ∃ b h', (AT (k + 2)).fn i__law_spoilt [.obj 1, .str (SX.S a)] h = .ok (.str (SX.S b)) h' ∧ Nx h h' ∧ cok b ∧ b.length ≤ 2 * a.length + 7 := by
  obtain ⟨ws, ews⟩ : ∃ ws, ws = spl [32] 0 [] a := ⟨_, rfl⟩
  have t0 : tot ws ≤ a.length + 1 := by rw [ews]; exact tot_spl _ a (Nat.le_refl _)
  have c0 : ∀ p ∈ ws, cok p := fun p hp c hc => ca c (spl_mem _ a (Nat.le_refl _) p (by rw [← ews]; exact hp) c hc)
  have n0 : 0 < ws.length := by
    have := spl_ne a
    rw [← ews] at this
    exact List.length_pos_iff.mpr this
  have l0 : ws.length ≤ 901 := by have := spl_len _ a (Nat.le_refl _); rw [ews]; omega
  let p := h.length
  let h1 := h ++ [O.lst (wsD ws)]
  have p2 : 2 ≤ p := hg2 hg
  have x1 : Nx h h1 := (Nx.refl hg).new _
  have at1 : h1[p]? = some (.lst (wsD ws)) := by simp [h1, p]
  have sp : evE (AT (k + 1)) (.bm .split (.var 1) (.cons (.cst (.str " ")) .nil)) [some (.obj 1), some (.str (SX.S a)), none, none, none, none] h = .ok (.obj p) h1 := by
    rw [evE, ev_var rfl]; simp only [Out.bind_ok]
    have bt : bmT .split (.str (SX.S a)) h = true := rfl
    rw [if_pos bt, es_cons ev_cst es_nil]; simp only [Out.bind_ok]
    show (if ((" " : Str).length == 0) = false ∧ (SX.S a).length ≤ LIM then new (.lst ((Txt.split (SX.S a) " ").map .str)) h else .stuck) = _
    rw [if_pos ⟨by decide +kernel, by rw [SX.S_len]; unfold LIM; omega⟩]
    have s0 : (" " : Str) = SX.S [32] := by decide +kernel
    have : (Txt.split (SX.S a) " ").map D.str = wsD ws := by
      rw [s0, SX.split_S (by simp) (by decide), ← ews, List.map_map]; rfl
    rw [this]; rfl
  have ln : evE (AT (k + 1)) (.bf .len (.cons (.var 2) .nil)) [some (.obj 1), some (.str (SX.S a)), some (.obj p), none, none, none] h1 = .ok (.int (ws.length : Nat)) h1 := e_bf (es_cons (ev_var rfl) es_nil) (by simp only [bfI, itemsOf, at1, wsD_len])
  obtain ⟨i, h2, i1, e2, x2⟩ := pk x1.hg k (ws.length : Nat) (by omega) (by omega)
  obtain ⟨t, h3, t1, e3, x3⟩ := pk x2.hg k 5 (by decide) (by decide)
  have x23 := x2.trans x3
  have at3 := x23.at_ p2 at1
  let O1 : D := .lsF (wsD oddW)
  let E3 : En := EnS a p (some O1) i t
  have od : evE (AT (k + 1)) (.lstF (.cons (.cst (.str "")) (.cons (.cst (.str "0")) (.cons (.cst (.str "1")) (.cons (.cst (.str "2")) (.cons (.cst (.str "5")) (.cons (.cst (.str "300")) (.cons (.cst (.str "301")) (.cons (.cst (.str "01")) (.cons (.cst (.str "-1")) (.cons (.cst (.str "sale")) (.cons (.cst (.str "row")) (.cons (.cst (.str "half")) (.cons (.cst (.str "one")) (.cons (.cst (.str "x")) .nil))))))))))))))) (EnS a p none i t) h3 = .ok O1 h3 := by
    show _ = Out.ok (D.lsF (wsD oddW)) h3
    rw [odd_D]
    exact e_lstF (es_cons ev_cst (es_cons ev_cst (es_cons ev_cst (es_cons ev_cst (es_cons ev_cst (es_cons ev_cst (es_cons ev_cst (es_cons ev_cst (es_cons ev_cst (es_cons ev_cst (es_cons ev_cst (es_cons ev_cst (es_cons ev_cst (es_cons ev_cst es_nil)))))))))))))) (lim3 rfl)
  have hd : ∀ {o : OS}, evSs (AT (k + 1)) (.cons (nthS 3 B__law_spoilt) (.cons (nthS 4 B__law_spoilt) (.cons (nthS 5 B__law_spoilt) (.cons (nthS 6 B__law_spoilt) .nil)))) E3 h3 = o → evSs (AT (k + 1)) B__law_spoilt [some (.obj 1), some (.str (SX.S a)), none, none, none, none] h = o := fun e =>
    ss_nx (s_asg sp) (ss_nx (s_par (es_cons (ev_call (es_cons (ev_var rfl) (es_cons ln es_nil)) e2) (es_cons (ev_call (es_cons (ev_var rfl) (es_cons ev_cst es_nil)) e3) es_nil)) rfl) (ss_nx (s_asg od) e))
  have xh3 : Nx h h3 := x1.trans x23
  have v4 : ∀ {h : List O}, evE (AT (k + 1)) (.var 4) E3 h = .ok (.int (i : Nat)) h := ev_var rfl
  have ad : ∀ {h : List O}, evE (AT (k + 1)) (.bin .add (.var 4) (.cst (.int 1))) E3 h = .ok (.int ((i + 1 : Nat) : Int)) h := fun {h} => ev_bin (ev_var rfl) ev_cst (by
    show Out.ok (D.int ((i : Int) + 1)) h = _
    rw [show ((i + 1 : Nat) : Int) = (i : Int) + 1 by omega])
  have ct : ∀ n, ∀ p ∈ ws.take n, cok p := fun n p hp => c0 p (List.mem_of_mem_take hp)
  have cd : ∀ n, ∀ p ∈ ws.drop n, cok p := fun n p hp => c0 p (List.mem_of_mem_drop hp)
  have lt : ∀ n, (ws.take n).length ≤ 901 := fun n => by rw [List.length_take]; omega
  have ld : ∀ n, (ws.drop n).length ≤ 901 := fun n => by rw [List.length_drop]; omega
  have iw : i < ws.length := by omega
  have wi : ws[i]? = some ws[i] := List.getElem?_eq_getElem iw
  have fin : ∀ {ws' : List Wd} {A : E}, LW (AT (k + 1)) E3 A h3 ws' → tot ws' ≤ 2 * a.length + 7 → (∀ p ∈ ws', cok p) → (∀ d h5, evE (AT (k + 1)) (.bm .join (.cst (.str " ")) (.cons A .nil)) E3 h3 = .ok d h5 → evSs (AT (k + 1)) (.cons (nthS 3 B__law_spoilt) (.cons (nthS 4 B__law_spoilt) (.cons (nthS 5 B__law_spoilt) (.cons (nthS 6 B__law_spoilt) .nil)))) E3 h3 = .rt d h5) → ∃ b h', (AT (k + 2)).fn i__law_spoilt [.obj 1, .str (SX.S a)] h = .ok (.str (SX.S b)) h' ∧ Nx h h' ∧ cok b ∧ b.length ≤ 2 * a.length + 7 := fun {ws'} {A} x tl cc st => by
    obtain ⟨h5, e5, x5⟩ := w_join x (by omega)
    refine ⟨joinL [32] ws', h5, fn_rt (m := k + 1) (b := B__law_spoilt) rfl rfl (hd (st _ _ e5)), xh3.trans x5, cok_join cc, ?_⟩
    have := join_tot ws'
    omega
  by_cases q0 : t = 0
  · refine fin (w_add (w_slH x3.hg rfl at3 v4) (fun h4 x4 => w_slT x4.hg rfl (x4.at_ p2 at3) ad) (by have := lt i; have := ld (i + 1); omega)) ?_ ?_ (fun d h5 e => ss_rt (s_iteT1 (ev_cmp (ev_var rfl) ev_cst (cmp_eq_it (by omega))) (ss_rt (s_ret e))))
    · rw [tot_app]; have := tot_take ws i; have := tot_drop ws (i + 1); omega
    · intro p hp
      rcases List.mem_append.mp hp with hp | hp
      · exact ct _ p hp
      · exact cd _ p hp
  have n3 : ∀ {ss : Ss} {o : OS}, evSs (AT (k + 1)) ss E3 h3 = o → evSs (AT (k + 1)) (.cons (nthS 3 B__law_spoilt) ss) E3 h3 = o := fun e => ss_nx (retN (ev_cmp (ev_var rfl) ev_cst (cmp_eq_if (by omega))) rfl) e
  by_cases q1 : t = 1
  · refine fin (w_add (w_add (w_slH x3.hg rfl at3 v4) (fun h4 x4 => w_lst (w := ws[i]) (B := .idx (.var 2) (.var 4)) (h1 := h4) (ev_idx (x := .obj p) (y := .int (i : Nat)) (h1 := h4) (ev_var rfl) (ev_var rfl) (by have z := x4.at_ p2 at3; simp only [idxI, itemsOf, z]; exact atI_nat (wsD_at wi))) (Nx.refl x4.hg)) (by have := lt i; show _ + 1 ≤ 5000; omega)) (fun h4 x4 => w_slT x4.hg rfl (x4.at_ p2 at3) v4) (by have := lt i; have := ld i; rw [List.length_append]; show _ + 1 + _ ≤ 5000; omega)) ?_ ?_ (fun d h5 e => n3 (ss_rt (s_iteT1 (ev_cmp (ev_var rfl) ev_cst (cmp_eq_it (by omega))) (ss_rt (s_ret e)))))
    · rw [tot_app, tot_app]
      have h1 := tot_app (ws.take i) (ws.drop i)
      rw [List.take_append_drop] at h1
      have h2 := tot_mem (List.getElem_mem iw)
      have h3 : tot [ws[i]] = ws[i].length + 1 := by simp [tot]
      omega
    · intro p hp
      rcases List.mem_append.mp hp with hp | hp
      · rcases List.mem_append.mp hp with hp | hp
        · exact ct _ p hp
        · have : p = ws[i] := by simpa using hp
          subst this
          exact c0 _ (List.getElem_mem iw)
      · exact cd _ p hp
  have n4 : ∀ {ss : Ss} {o : OS}, evSs (AT (k + 1)) ss E3 h3 = o → evSs (AT (k + 1)) (.cons (nthS 3 B__law_spoilt) (.cons (nthS 4 B__law_spoilt) ss)) E3 h3 = o := fun e => n3 (ss_nx (retN (ev_cmp (ev_var rfl) ev_cst (cmp_eq_if (by omega))) rfl) e)
  by_cases q2 : t = 2
  · refine fin (w_slH x3.hg rfl at3 v4) ?_ (ct _) (fun d h5 e => n4 (ss_rt (s_iteT1 (ev_cmp (ev_var rfl) ev_cst (cmp_eq_it (by omega))) (ss_rt (s_ret e)))))
    have := tot_take ws i; omega
  have n5 : ∀ {ss : Ss} {o : OS}, evSs (AT (k + 1)) ss E3 h3 = o → evSs (AT (k + 1)) (.cons (nthS 3 B__law_spoilt) (.cons (nthS 4 B__law_spoilt) (.cons (nthS 5 B__law_spoilt) ss))) E3 h3 = o := fun e => n4 (ss_nx (retN (ev_cmp (ev_var rfl) ev_cst (cmp_eq_if (by omega))) rfl) e)
  -- an odd word put in
  obtain ⟨u4, h4, e4, u42, a4, x4⟩ := w_slH (F := AT (k + 1)) (en := E3) (v := 2) (B := .var 4) x3.hg rfl at3 (v4 (h := h3))
  obtain ⟨z, h5, z1, e5, x5⟩ := pk x4.hg k 14 (by decide) (by decide)
  have zo : oddW[z]? = some (oddW[z]'(by show z < 14; omega)) := List.getElem?_eq_getElem _
  generalize (oddW[z]'(by show z < 14; omega)) = wo at zo
  have oo := odd_ok wo (List.mem_of_getElem? zo)
  have el : evE (AT (k + 1)) (.idx (.var 3) (.call i__law_pick (.cons (.var 0) (.cons (.cst (.int 14)) .nil)))) E3 h4 = .ok (.str (SX.S wo)) h5 := ev_idx (ev_var rfl) (ev_call (es_cons (ev_var rfl) (es_cons ev_cst es_nil)) e5) (by simp only [idxI, itemsOf]; exact atI_nat (wsD_at zo))
  have x3' : LW (AT (k + 1)) E3 (.bin .add (.slH (.var 2) (.var 4)) (.lst (.cons (.idx (.var 3) (.call i__law_pick (.cons (.var 0) (.cons (.cst (.int 14)) .nil)))) .nil))) h3 (ws.take i ++ [wo]) := by
    let h6 := h5 ++ [O.lst (wsD [wo])]
    have a5 := x5.at_ u42 a4
    have x6 : Nx h5 h6 := (Nx.refl x5.hg).new _
    have a6 := x6.at_ u42 a5
    have l5 := hg2 x5.hg
    refine ⟨h6.length, h6 ++ [.lst (wsD (ws.take i ++ [wo]))], ev_bin e4 (e_lst (es_cons el es_nil) (lim3 rfl)) ?_, hg2 x6.hg, by simp, ((x4.trans x5).trans x6).new _⟩
    have b6 : h6[h5.length]? = some (.lst (wsD [wo])) := by simp [h6]
    show Mi.binI .add (.obj u4) (.obj h5.length) h6 = _
    simp only [Mi.binI, a6, b6]
    rw [if_pos (by rw [wsD_len, wsD_len]; have := lt i; show _ + 1 ≤ LIM; unfold LIM; omega), ← wsD_app]; rfl
  have sb : ∀ {h : List O}, evE (AT (k + 1)) (.bin .sub (.bin .add (.var 4) (.var 5)) (.cst (.int 3))) E3 h = .ok (.int ((i + t - 3 : Nat) : Int)) h := fun {h} => ev_bin (x := .int ((i : Int) + (t : Int))) (ev_bin (ev_var rfl) (ev_var rfl) rfl) ev_cst (by
    show Out.ok (D.int ((i : Int) + (t : Int) - 3)) h = _
    rw [show ((i + t - 3 : Nat) : Int) = (i : Int) + (t : Int) - 3 by omega])
  refine fin (w_add x3' (fun h4 x4 => w_slT x4.hg rfl (x4.at_ p2 at3) sb) (by have := lt i; have := ld (i + t - 3); rw [List.length_append]; show _ + 1 + _ ≤ 5000; omega)) ?_ ?_ (fun d h5 e => n5 (ss_rt (s_ret e)))
  · rw [tot_app, tot_app]
    have h1 := tot_app (ws.take i) (ws.drop i)
    rw [List.take_append_drop] at h1
    have h3 : tot [wo] = wo.length + 1 := by simp [tot]
    have h4 := oo.2
    have h5 : tot (ws.drop (i + t - 3)) ≤ tot (ws.drop i) := by
      rw [show i + t - 3 = i + (t - 3) by omega, ← List.drop_drop]; exact tot_drop _ _
    omega
  · intro p hp
    rcases List.mem_append.mp hp with hp | hp
    · rcases List.mem_append.mp hp with hp | hp
      · exact ct _ p hp
      · have : p = wo := by simpa using hp
        subst this
        exact oo.1
    · exact cd _ p hp
end
end Law_k11

set_option Elab.async false
set_option linter.all false
set_option maxRecDepth 100000
set_option maxHeartbeats 4000000
/-! TxW: the law's lines, a list of ours. -/
namespace Law_k11
open PySem PySem.Spec PyProof.Rows L2 Mi TL
def lnExp : E := match B__law_lines with
  | .cons (.ret (.lst (.cons _ (.cons (.apE _ e) .nil)))) .nil => e
  | _ => .bad
def lnExpA : E := match B__law_lines with
  | .cons (.ret (.lst (.cons e (.cons _ .nil)))) .nil => e
  | _ => .bad
theorem lnB_chk : allW.all (fun w => isTx (evE (AT 69) lnExp [none, none, some w.d, none] []) (lnB w)) = true := by kernel_rfl
theorem lnA_ff {w : D} {h : List O} : evE (AT 69) lnExpA [some (.str (gT false)), some (.str (tT false)), some w, none] h = .ok (.str (SX.S (lnA false false))) h := by kernel_rfl
theorem lnA_ft {w : D} {h : List O} : evE (AT 69) lnExpA [some (.str (gT false)), some (.str (tT true)), some w, none] h = .ok (.str (SX.S (lnA false true))) h := by kernel_rfl
theorem lnA_tf {w : D} {h : List O} : evE (AT 69) lnExpA [some (.str (gT true)), some (.str (tT false)), some w, none] h = .ok (.str (SX.S (lnA true false))) h := by kernel_rfl
theorem lnA_tt {w : D} {h : List O} : evE (AT 69) lnExpA [some (.str (gT true)), some (.str (tT true)), some w, none] h = .ok (.str (SX.S (lnA true true))) h := by kernel_rfl
theorem lnA_ok {w : D} {h : List O} (g t : Bool) : evE (AT 69) lnExpA [some (.str (gT g)), some (.str (tT t)), some w, none] h = .ok (.str (SX.S (lnA g t))) h := by
  cases g <;> cases t
  · exact lnA_ff
  · exact lnA_ft
  · exact lnA_tf
  · exact lnA_tt
theorem lines_ok {w : Ws} {h : List O} (g t : Bool) (hm : w ∈ allW) : (AT 70).fn i__law_lines [.str (gT g), .str (tT t), w.d] h = .ok (.obj h.length) (h ++ [.lst (wsD [lnA g t, lnB w])]) := by
  obtain ⟨h', e⟩ := isTx_ok (List.all_eq_true.mp lnB_chk w hm)
  refine fn_rt (m := 69) (b := B__law_lines) rfl rfl ?_
  exact ss_rt (s_ret (e_lst (es_cons (lnA_ok g t) (es_cons (e_ap (n := 4) (en2 := [none, none, some w.d, none]) rfl (frzE_cons rfl frz_w rfl) e rfl) es_nil)) (lim3 rfl)))
end Law_k11

set_option Elab.async false
set_option linter.all false
set_option maxRecDepth 100000
set_option maxHeartbeats 4000000
namespace Law_k11
open PySem PySem.Spec PyProof.Rows L2 Mi TL
abbrev FF : Fns := AT 70
theorem Hg.set {h : List O} {i : Nat} {o : O} (x : Hg h) (h2 : 2 ≤ i) : Hg (h.set i o) := by
  obtain ⟨ns, p, r, s, hp, hr, g0, g1⟩ := x
  exact ⟨ns, p, r, s, hp, hr, by rw [List.getElem?_set_ne (by omega)]; exact g0, by rw [List.getElem?_set_ne (by omega)]; exact g1⟩
def bnd : Nat → Nat
  | 0 => 44
  | n + 1 => 2 * bnd n + 7
/-- the lines so far -/
structure J (n : Nat) (h : List O) (l : Nat) (as : List (List Nat)) : Prop where
  hg : Hg h
  l2 : 2 ≤ l
  at_ : h[l]? = some (.lst (wsD as))
  ne : 0 < as.length
  len : as.length ≤ 2 + n
  ok : ∀ a ∈ as, cok a ∧ a.length ≤ bnd n
theorem bnd_le {n : Nat} : bnd n ≤ bnd (n + 1) := by show bnd n ≤ 2 * bnd n + 7; omega
abbrev lE (a0 : D) (c2 c3 c4 c5 c6 c7 c8 : Option D) : En := [some a0, some (.obj 1), c2, c3, c4, c5, c6, c7, c8]
def lB : Ss := match nthS 1 B_law with
  | .for_ _ _ b => b
  | _ => .nil
def iB : Ss := match nthS 2 lB with
  | .for_ _ _ b => b
  | _ => .nil
theorem e_and_ff {F : Fns} {A B : E} {en : En} {h : List O} (hA : evE F A en h = .ok (.bl false) h) : evE F (.and A B) en h = .ok (.bl false) h := by
  rw [evE, hA]; rfl
theorem s_iteF1 {F : Fns} {c : E} {P Q : Ss} {en : En} {h h1 : List O} {o : OS} (hc : evE F c en h = .ok (.bl false) h1) (hQ : evSs F Q en h1 = o) : evS F (.ite c P Q) en h = o := s_ite (b := false) (evT_bl hc) (by rw [if_neg Bool.false_ne_true]; exact hQ)
section
variable {a0 : D} {c2 c4 c5 c6 c7 c8 : Option D} {h : List O} {n l : Nat} {as : List (List Nat)}
theorem J.up {as' : List (List Nat)} {h' : List O} {l' : Nat} (x : J n h l as) (hg : Hg h') (l2 : 2 ≤ l') (at_ : h'[l']? = some (.lst (wsD as'))) (ne : 0 < as'.length) (len : as'.length ≤ as.length + 1) (ok : ∀ a ∈ as', a ∈ as) : J (n + 1) h' l' as' :=
  ⟨hg, l2, at_, ne, by have := x.len; omega, fun a ha => ⟨(x.ok a (ok a ha)).1, Nat.le_trans (x.ok a (ok a ha)).2 bnd_le⟩⟩
theorem change (x : J n h l as) (hn : n ≤ 1) : ∃ c7' c8' l' as' h', evSs FF iB (lE a0 c2 (some (.obj l)) c4 c5 c6 c7 c8) h = .nx (lE a0 c2 (some (.obj l')) c4 c5 c6 c7' c8') h' ∧ J (n + 1) h' l' as' := by
  have l4 : as.length ≤ 3 := by have := x.len; omega
  have ln : evE FF (.bf .len (.cons (.var 3) .nil)) (lE a0 c2 (some (.obj l)) c4 c5 c6 c7 c8) h = .ok (.int (as.length : Nat)) h := e_bf (es_cons (ev_var rfl) es_nil) (by have z := x.at_; simp only [bfI, itemsOf, z, wsD_len])
  have ne := x.ne
  obtain ⟨i, h1, i1, e1, x1⟩ := pk x.hg 69 (as.length : Nat) (by omega) (by omega)
  have e1 : FF.fn i__law_pick [.obj 1, .int (as.length : Nat)] h = .ok (.int (i : Nat)) h1 := e1
  obtain ⟨t, h2, t1, e2, x2⟩ := pk x1.hg 69 6 (by decide) (by decide)
  have e2 : FF.fn i__law_pick [.obj 1, .int 6] h1 = .ok (.int (t : Nat)) h2 := e2
  have x12 := x1.trans x2
  have at2 := x12.at_ x.l2 x.at_
  let E2 : En := lE a0 c2 (some (.obj l)) c4 c5 c6 (some (.int (i : Nat))) (some (.int (t : Nat)))
  have s0 : evS FF (nthS 0 iB) (lE a0 c2 (some (.obj l)) c4 c5 c6 c7 c8) h = .nx E2 h2 := s_par (es_cons (ev_call (es_cons (ev_var rfl) (es_cons ln es_nil)) e1) (es_cons (ev_call (es_cons (ev_var rfl) (es_cons ev_cst es_nil)) e2) es_nil)) rfl
  have ln2 : evE FF (.bf .len (.cons (.var 3) .nil)) E2 h2 = .ok (.int (as.length : Nat)) h2 := e_bf (es_cons (ev_var rfl) es_nil) (by simp only [bfI, itemsOf, at2, wsD_len])
  have v7 : ∀ {h : List O}, evE FF (.var 7) E2 h = .ok (.int (i : Nat)) h := ev_var rfl
  have ad : ∀ {h : List O}, evE FF (.bin .add (.var 7) (.cst (.int 1))) E2 h = .ok (.int ((i + 1 : Nat) : Int)) h := fun {h} => ev_bin (ev_var rfl) ev_cst (by
    show Out.ok (D.int ((i : Int) + 1)) h = _
    rw [show ((i + 1 : Nat) : Int) = (i : Int) + 1 by omega])
  have ia : i < as.length := by omega
  have ai : as[i]? = some as[i] := List.getElem?_eq_getElem ia
  have lt : ∀ n, (as.take n).length ≤ 4 := fun n => by rw [List.length_take]; omega
  have ld : ∀ n, (as.drop n).length ≤ 4 := fun n => by rw [List.length_drop]; omega
  have fin : ∀ {as' : List (List Nat)} {A : E}, LW FF E2 A h2 as' → 0 < as'.length → as'.length ≤ as.length + 1 → (∀ a ∈ as', a ∈ as) → (∀ u h5, evE FF A E2 h2 = .ok (.obj u) h5 → evS FF (nthS 1 iB) E2 h2 = .nx (lE a0 c2 (some (.obj u)) c4 c5 c6 (some (.int (i : Nat))) (some (.int (t : Nat)))) h5) → ∃ c7' c8' l' as' h', evSs FF iB (lE a0 c2 (some (.obj l)) c4 c5 c6 c7 c8) h = .nx (lE a0 c2 (some (.obj l')) c4 c5 c6 c7' c8') h' ∧ J (n + 1) h' l' as' := fun {as'} {A} y l0 l1 sub st => by
    obtain ⟨u, h5, e5, u2, at5, x5⟩ := y
    exact ⟨_, _, u, as', h5, ss_nx s0 (ss_nx (st u h5 e5) ss_nil), x.up x5.hg u2 at5 l0 l1 sub⟩
  by_cases q0 : t = 0 ∧ 1 < as.length
  · refine fin (w_add (w_slH x2.hg (v := 3) rfl at2 v7) (fun h4 x4 => w_slT x4.hg (v := 3) rfl (x4.at_ x.l2 at2) ad) (by have := lt i; have := ld (i + 1); omega)) ?_ ?_ ?_ (fun u h5 e => s_iteT1 (e_and (b := true) (ev_cmp (ev_var rfl) ev_cst (cmp_eq_it (by omega))) rfl (ev_cmp ln2 ev_cst (cmp_gt_t (by omega)))) (ss_nx (s_asg e) ss_nil))
    · rw [List.length_append, List.length_take, List.length_drop]; omega
    · rw [List.length_append, List.length_take, List.length_drop]; omega
    · intro a ha
      rcases List.mem_append.mp ha with h | h
      · exact List.mem_of_mem_take h
      · exact List.mem_of_mem_drop h
  have c0 : evE FF (.and (.cmp .eq (.var 8) (.cst (.int 0))) (.cmp .gt (.bf .len (.cons (.var 3) .nil)) (.cst (.int 1)))) E2 h2 = .ok (.bl false) h2 := by
    by_cases z : t = 0
    · exact e_and (b := true) (ev_cmp (ev_var rfl) ev_cst (cmp_eq_it (by omega))) rfl (ev_cmp ln2 ev_cst (cmp_gt_f (by omega)))
    · exact e_and_ff (ev_cmp (ev_var rfl) ev_cst (cmp_eq_if (by omega)))
  by_cases q1 : t = 1
  · refine fin (w_add (w_add (w_slH x2.hg (v := 3) rfl at2 v7) (fun h4 x4 => w_lst (w := as[i]) (B := .idx (.var 3) (.var 7)) (h1 := h4) (ev_idx (x := .obj l) (y := .int (i : Nat)) (h1 := h4) (ev_var rfl) (ev_var rfl) (by have z := x4.at_ x.l2 at2; simp only [idxI, itemsOf, z]; exact atI_nat (wsD_at ai))) (Nx.refl x4.hg)) (by have := lt i; show _ + 1 ≤ 5000; omega)) (fun h4 x4 => w_slT x4.hg (v := 3) rfl (x4.at_ x.l2 at2) v7) (by have := lt i; have := ld i; rw [List.length_append]; show _ + 1 + _ ≤ 5000; omega)) ?_ ?_ ?_ (fun u h5 e => s_iteF1 c0 (ss_nx (s_iteT1 (ev_cmp (ev_var rfl) ev_cst (cmp_eq_it (by omega))) (ss_nx (s_asg e) ss_nil)) ss_nil))
    · simp only [List.length_append, List.length_take, List.length_drop, List.length_cons, List.length_nil]; omega
    · simp only [List.length_append, List.length_take, List.length_drop, List.length_cons, List.length_nil]; omega
    · intro a ha
      rcases List.mem_append.mp ha with h | h
      · rcases List.mem_append.mp h with h | h
        · exact List.mem_of_mem_take h
        · have : a = as[i] := by simpa using h
          subst this; exact List.getElem_mem ia
      · exact List.mem_of_mem_drop h
  by_cases q2 : t = 2
  · refine fin (w_add (w_slT x2.hg (v := 3) rfl at2 v7) (fun h4 x4 => w_slH x4.hg (v := 3) rfl (x4.at_ x.l2 at2) v7) (by have := lt i; have := ld i; omega)) ?_ ?_ ?_ (fun u h5 e => s_iteF1 c0 (ss_nx (s_iteF1 (ev_cmp (ev_var rfl) ev_cst (cmp_eq_if (by omega))) (ss_nx (s_iteT1 (ev_cmp (ev_var rfl) ev_cst (cmp_eq_it (by omega))) (ss_nx (s_asg e) ss_nil)) ss_nil)) ss_nil))
    · rw [List.length_append, List.length_take, List.length_drop]; omega
    · rw [List.length_append, List.length_take, List.length_drop]; omega
    · intro a ha
      rcases List.mem_append.mp ha with h | h
      · exact List.mem_of_mem_drop h
      · exact List.mem_of_mem_take h
  -- a line spoilt
  obtain ⟨ca, la⟩ := x.ok as[i] (List.getElem_mem ia)
  have bn : bnd n ≤ 100 := by
    rcases (show n = 0 ∨ n = 1 by omega) with rfl | rfl <;> decide
  obtain ⟨b, h3, e3, x3, cb, lb⟩ := spoilt_ok (k := 68) x2.hg ca (by omega)
  have e3 : FF.fn i__law_spoilt [.obj 1, .str (SX.S as[i])] h2 = .ok (.str (SX.S b)) h3 := e3
  have at3 := x3.at_ x.l2 at2
  have ix : evE FF (.idx (.var 3) (.var 7)) E2 h2 = .ok (.str (SX.S as[i])) h2 := ev_idx (x := .obj l) (y := .int (i : Nat)) (ev_var rfl) (ev_var rfl) (by simp only [idxI, itemsOf, at2]; exact atI_nat (wsD_at ai))
  have st : evS FF (.setI (.var 3) (.var 7) (.call i__law_spoilt (.cons (.var 1) (.cons (.idx (.var 3) (.var 7)) .nil)))) E2 h2 = .nx E2 (h3.set l (.lst (wsD (as.set i b)))) := by
    rw [evS, ev_call (es_cons (ev_var rfl) (es_cons ix es_nil)) e3]; simp only [OS.of]
    rw [ev_var (d := .obj l) rfl]; simp only
    rw [ev_var (d := .int (i : Nat)) rfl]; simp only
    have : setII (.obj l) (.int (i : Nat)) (.str (SX.S b)) h3 = some (h3.set l (.lst (wsD (as.set i b)))) := by
      simp only [setII, at3]
      have ixn : ixN (wsD as).length (i : Nat) = some i := by
        unfold ixN
        rw [if_pos (by omega), if_pos (by rw [wsD_len]; omega)]; simp
      rw [ixn]; simp only
      have : (wsD as).set i (.str (SX.S b)) = wsD (as.set i b) := by unfold wsD; rw [List.map_set]
      rw [this]
    rw [this]
  have l3 : l < h3.length := (List.getElem?_eq_some_iff.mp at3).1
  refine ⟨_, _, l, as.set i b, _, ss_nx s0 (ss_nx (s_iteF1 c0 (ss_nx (s_iteF1 (ev_cmp (ev_var rfl) ev_cst (cmp_eq_if (by omega))) (ss_nx (s_iteF1 (ev_cmp (ev_var rfl) ev_cst (cmp_eq_if (by omega))) (ss_nx st ss_nil)) ss_nil)) ss_nil)) ss_nil), ⟨x3.hg.set x.l2, x.l2, List.getElem?_set_self l3, by rw [List.length_set]; exact x.ne, by rw [List.length_set]; have := x.len; omega, fun a ha => ?_⟩⟩
  rcases List.mem_or_eq_of_mem_set ha with h | rfl
  · exact ⟨(x.ok a h).1, Nat.le_trans (x.ok a h).2 bnd_le⟩
  · exact ⟨cb, by show _ ≤ 2 * bnd n + 7; omega⟩
end
/-! the comparison -/
theorem e_neT {F : Fns} {A B : E} {en : En} {h h1 h2 : List O} {x y : D} {f : Nat} (hA : evE F A en h = .ok x h1) (hB : evE F B en h1 = .ok y h2) (hs : sameT F f x y = true ∨ (sameT F f x y = false ∧ cmpI .ne x y h2 = some false)) : evE F (.neT f A B) en h = .ok (.bl false) h2 := by
  rw [evE, hA]; simp only [Out.bind_ok]; rw [hB]; simp only [Out.bind_ok]
  rcases hs with hs | ⟨hs, hc⟩
  · rw [if_pos hs]
  · rw [hs, if_neg Bool.false_ne_true, hc]; rfl
theorem sale_eq (g t : Bool) : (match FF.fn i_Sale___eq__ [.sale (gT g) (tT t), .sale (gT g) (tT t)] [] with
    | .ok (.bl true) _ => true
    | _ => false) = true := by
  cases g <;> cases t
  · kernel_rfl
  · kernel_rfl
  · kernel_rfl
  · kernel_rfl
theorem same_L (w : Ws) : ∃ ds, w.d = .tup ds ∧ sameL ds ds = true := by
  cases w with
  | L j => exact ⟨_, rfl, by simp [sameL, sameI]⟩
  | H => exact ⟨_, rfl, by simp [sameL, sameI]⟩
  | T => exact ⟨_, rfl, by simp [sameL, sameI]⟩
  | R a b => exact ⟨_, rfl, by simp [sameL, sameI]⟩
theorem same_R (r : RR) (h : List O) : sameT FF i_Sale___eq__ r.d r.d = true ∨ (sameT FF i_Sale___eq__ r.d r.d = false ∧ cmpI .ne r.d r.d h = some false) := by
  cases r with
  | ok g t w =>
    refine .inl ?_
    obtain ⟨ds, e, s⟩ := same_L w
    show sameT FF i_Sale___eq__ (.tup [.sale (gT g) (tT t), w.d]) (.tup [.sale (gT g) (tT t), w.d]) = true
    rw [e]
    show ((match FF.fn i_Sale___eq__ [.sale (gT g) (tT t), .sale (gT g) (tT t)] [] with
      | .ok (.bl true) _ => true
      | _ => false) && sameL ds ds) = true
    rw [sale_eq, s]; rfl
  | bad l k =>
    refine .inr ⟨rfl, ?_⟩
    let P : PyData := .list [.str "line", .int (l : Nat), .int (k : Nat)]
    have sh : SeqAt.shaped P = true := by kernel_rfl
    have eq : PyData.eqv P P = true := by
      show ((("line" : Str) == "line") && (((l : Int) == (l : Int)) && (((k : Int) == (k : Int)) && true))) = true
      simp
    show (if (SeqAt.shaped P && SeqAt.shaped P) = true then some (PyData.eqv P P) else none).map (fun b => !b) = some false
    rw [sh, eq]; rfl
section
variable {a0 : D} {c2 c3 c4 c5 c6 c7 c8 : Option D} {h : List O} {n l : Nat} {as : List (List Nat)}
theorem goodJ (x : J n h l as) (hn : n ≤ 2) : ∀ a ∈ as, good a := fun a ha => by
  have bn : bnd n ≤ 900 := by
    rcases (show n = 0 ∨ n = 1 ∨ n = 2 by omega) with rfl | rfl | rfl <;> decide
  exact ⟨(x.ok a ha).1, Nat.le_trans (x.ok a ha).2 bn⟩
theorem frz_ws (x : J n h l as) : frzA 4 h (.obj l) = some (.lsF (wsD as)) := by
  have e : optAll ((wsD as).map (frzA 3 h)) = some (wsD as) := by
    clear x
    induction as with
    | nil => rfl
    | cons a as ih =>
      show optAll (frzA 3 h (.str (SX.S a)) :: (wsD as).map (frzA 3 h)) = _
      simp only [frzA, optAll, ih]; rfl
  rw [frzA, x.at_]; simp only
  rw [e]
theorem asked (x : J n h l as) (hn : n ≤ 2) : evS FF (nthS 3 lB) (lE a0 c2 (some (.obj l)) c4 c5 c6 c7 c8) h = .nx (lE a0 c2 (some (.obj l)) c4 c5 c6 c7 c8) h := by
  have g := goodJ x hn
  have hl : as.length ≤ 100 := by have := x.len; omega
  have ne : as ≠ [] := List.length_pos_iff.mp x.ne
  obtain ⟨r, h', du, e⟩ := read_gen (m := 65) as ne g hl
  have e : (AT 69).fn i_read [.str (txtN as)] [] = r.out h' := e
  have tl := told_ok (m := 68) e
  have dl := due_ok (m := 66) g hl du
  let E2 : En := [none, none, none, some (.lsF (wsD as)), none, none, none, none, none]
  have fz : frzE h (lE a0 c2 (some (.obj l)) c4 c5 c6 c7 c8) [3] (List.replicate 9 none) = some E2 := frzE_cons rfl (frz_ws x) rfl
  have jn : evE FF (.bm .join (.cst (.str "\n")) (.cons (.var 3) .nil)) E2 [] = .ok (.str (txtN as)) [] := joinW (by decide +kernel) (ev_var rfl) rfl (by
    have h1 : ∀ (b : List (List Nat)), (∀ a ∈ b, a.length ≤ 900) → (b.map List.length).sum + b.length ≤ 901 * b.length := fun b hb => by
      induction b with
      | nil => simp
      | cons p r ih =>
        have h1 := hb p (by simp)
        have h2 := ih (fun a ha => hb a (by simp [ha]))
        simp only [List.map_cons, List.sum_cons, List.length_cons] at *
        omega
    have := h1 as (fun a ha => (g a ha).2)
    omega)
  refine retN (e_neT (x := r.d) (y := r.d) (h1 := h) (h2 := h) (e_apIs fz ?_) (e_apIs fz ?_) (same_R r h)) rfl
  · rw [ev_call (F := FF) (es_cons jn es_nil) rfl]
    exact tl
  · rw [ev_call (F := FF) (es_cons (ev_var (d := .lsF (wsD as)) rfl) es_nil) rfl]
    exact dl
theorem lturn_ok (hg : Hg h) : ∃ c3' c4' c5' c6' c7' c8' h', evSs FF lB (lE a0 c2 c3 c4 c5 c6 c7 c8) h = .nx (lE a0 c2 c3' c4' c5' c6' c7' c8') h' ∧ Hg h' := by
  obtain ⟨g, t, h1, e1, x1⟩ := words_dr hg 68
  have e1 : FF.fn i__law_words [.obj 1] h = .ok (.tup [.str (gT g), .str (tT t)]) h1 := e1
  obtain ⟨w, h2, wk, wj, e2, x2⟩ := wish_dr x1.hg 68 9 (by decide)
  have e2 : FF.fn i__law_wish [.obj 1, .int 9] h1 = .ok w.d h2 := e2
  have wj : ∀ j, w = .L j → j ≤ 300 := fun j hj => by have := wj j hj; omega
  have wm := allW_mem wk wj
  have LA := lin_sale g t
  have LB := lin_wish wk wj
  have e3 : FF.fn i__law_lines [.str (gT g), .str (tT t), w.d] h2 = .ok (.obj h2.length) (h2 ++ [.lst (wsD [lnA g t, lnB w])]) := lines_ok g t wm
  have x3 : Nx h2 (h2 ++ [O.lst (wsD [lnA g t, lnB w])]) := (Nx.refl x2.hg).new _
  have lj : ∀ {ws : List (List Nat)}, Lin ws → cok (joinL [32] ws) ∧ (joinL [32] ws).length ≤ bnd 0 := fun {ws} L => by
    refine ⟨L.good.1, ?_⟩
    have := join_len (x := 32) (b := 10) ws (fun p hp => (wok_ne (L.ok p hp)).2.2)
    have := L.len
    show _ ≤ 44
    omega
  have j0 : J 0 (h2 ++ [O.lst (wsD [lnA g t, lnB w])]) h2.length [lnA g t, lnB w] := by
    refine ⟨x3.hg, hg2 x2.hg, by simp, (show 0 < 2 by decide), (show 2 ≤ 2 + 0 by decide), fun a ha => ?_⟩
    rcases List.mem_cons.mp ha with rfl | ha
    · exact lj LA
    · have : a = lnB w := by simpa using ha
      subst this
      exact lj LB
  obtain ⟨v, h4, v1, e4, x4⟩ := pk x3.hg 69 3 (by decide) (by decide)
  have e4 : FF.fn i__law_pick [.obj 1, .int 3] (h2 ++ [O.lst (wsD [lnA g t, lnB w])]) = .ok (.int (v : Nat)) h4 := e4
  have j4 : J 0 h4 h2.length [lnA g t, lnB w] := ⟨x4.hg, j0.l2, x4.at_ j0.l2 j0.at_, j0.ne, j0.len, j0.ok⟩
  obtain ⟨en', h5, e5, ⟨c4', c7', c8', l', as', rfl, j5⟩⟩ := forI_inv (set := setT [4]) (b := evSs FF iB) (fun k en h => ∃ c4' c7' c8' l' as', en = lE a0 c2 (some (.obj l')) c4' (some (.str (gT g))) (some (.str (tT t))) c7' c8' ∧ J k h l' as') (rangeD ((0 : Nat) : Int) (v : Nat)) 0 (lE a0 c2 (some (.obj h2.length)) c4 (some (.str (gT g))) (some (.str (tT t))) c7 c8) h4 (fun i d en h hd ⟨c4', c7', c8', l', as', he, jj⟩ => by
    subst he
    obtain ⟨lt, rfl⟩ := range_at hd
    rw [Nat.zero_add] at *
    obtain ⟨c7'', c8'', l'', as'', h', e, j'⟩ := change (a0 := a0) (c2 := c2) (c4 := some (.int (i : Nat))) (c5 := some (.str (gT g))) (c6 := some (.str (tT t))) (c7 := c7') (c8 := c8') jj (by omega)
    exact ⟨_, _, h', rfl, e, _, _, _, _, _, rfl, j'⟩) ⟨_, _, _, _, _, rfl, j4⟩
  have lv : (rangeD ((0 : Nat) : Int) (v : Nat)).length = v := by
    unfold rangeD
    rw [List.length_map, List.length_range]; omega
  rw [Nat.zero_add, lv] at j5
  refine ⟨some (.obj l'), c4', some (.str (gT g)), some (.str (tT t)), c7', c8', h5, ?_, j5.hg⟩
  refine ss_nx (s_unp (ev_call (es_cons (ev_var rfl) es_nil) e1) rfl) ?_
  refine ss_nx (s_asg (ev_call (es_cons (ev_var rfl) (es_cons (ev_var rfl) (es_cons (ev_call (es_cons (ev_var rfl) (es_cons ev_cst es_nil)) e2) es_nil))) e3)) ?_
  refine ss_nx (s_range1 (ev_call (es_cons (ev_var rfl) (es_cons ev_cst es_nil)) e4) (small_nat (by omega)) e5) ?_
  exact ss_nx (asked j5 (by omega)) ss_nil
end
theorem wds_e : wds [] = [] := wds_nil
theorem last_ok {en : En} {h : List O} (hl : en.length = 9) : evE FF (.cmp .eq (.apE [] (.call i__law_told (.cons (.cst (.str "")) .nil))) (.lstF (.cons (.cst (.str "line")) (.cons (.cst (.int 1)) (.cons (.cst (.int 1)) .nil))))) en h = .ok (.bl true) h := by
  have g : ∀ a ∈ ([[]] : List (List Nat)), good a := fun a ha => by
    have : a = [] := by simpa using ha
    subst this
    exact ⟨fun c hc => by simp at hc, by simp⟩
  obtain ⟨r, h', du, e⟩ := read_gen (m := 65) [[]] (by simp) g (by simp)
  have e : (AT 69).fn i_read [.str (txtN [[]])] [] = r.out h' := e
  have tx : txtN [[]] = "" := by decide +kernel
  rw [tx] at e
  have tl := told_ok (m := 68) e
  have er : r = .bad 1 1 := by
    have z : firstAt [] 0 lists1 = 1 := by decide +kernel
    rw [List.map_cons, List.map_nil, wds_e] at du
    cases du with
    | c1 h => rw [z] at h; rw [← h]
    | c2 h => rw [z] at h; cases h
  subst er
  refine ev_cmp (x := (RR.bad 1 1).d) (h1 := h) (e_apIs (en2 := List.replicate 9 none) (by rw [hl]; rfl) ?_) (e_lstF (es_cons ev_cst (es_cons ev_cst (es_cons ev_cst es_nil))) (lim3 rfl)) (by kernel_rfl)
  rw [ev_call (F := FF) (es_cons ev_cst es_nil) rfl]
  exact tl
theorem say (ns : List Int) (hn : ns.length ≤ 63) : ∃ h', (cfg.p.at_ 71).fn FL [.lsF (ns.map .int)] [] = .ok (.bl true) h' := by
  have d0 : FF.fn i__law_draws [.lsF (ns.map .int)] [] = .ok (.obj 1) [.lst (ns.map .int), rowO 0 0 0 7] := draws_ok (k := 68) (ns := ns)
  obtain ⟨en', h1, e, ⟨c2, c3, c4, c5, c6, c7, c8, rfl⟩, x1⟩ := forI_inv (set := setT [2]) (b := evSs FF lB) (fun _ en h => (∃ c2 c3 c4 c5 c6 c7 c8, en = lE (.lsF (ns.map .int)) c2 c3 c4 c5 c6 c7 c8) ∧ Hg h) (rangeD 0 9) 0 (lE (.lsF (ns.map .int)) none none none none none none none) [.lst (ns.map .int), rowO 0 0 0 7] (fun i d en h hd ⟨⟨c2, c3, c4, c5, c6, c7, c8, he⟩, hg⟩ => by
    subst he
    obtain ⟨c3', c4', c5', c6', c7', c8', h', e, hg'⟩ := lturn_ok (a0 := .lsF (ns.map .int)) (c2 := some d) (c3 := c3) (c4 := c4) (c5 := c5) (c6 := c6) (c7 := c7) (c8 := c8) hg
    exact ⟨_, _, h', rfl, e, ⟨_, _, _, _, _, _, _, rfl⟩, hg'⟩) ⟨⟨_, _, _, _, _, _, _, rfl⟩, hg0⟩
  refine ⟨h1, fn_rt (m := 70) (b := B_law) rfl rfl ?_⟩
  refine ss_nx (s_asg (ev_call (es_cons (ev_var rfl) es_nil) d0)) ?_
  refine ss_nx (s_range1 ev_cst rfl e) ?_
  exact ss_rt (s_ret (last_ok rfl))
end Law_k11

set_option Elab.async false
set_option linter.all false
set_option maxRecDepth 100000
set_option maxHeartbeats 0
namespace Law_k11
open PySem PySem.Spec PySem.W PySem.Calls PyProof.Rows L2 Mi
theorem run (w : World) : HandSHeadRun.RunEq R q hk ob 9000 loose w := run_of w (hdA w) (hdB w) (hdC w) (hdD w) (hdE w)
theorem g11s : WalkO q loose (XL q []) hk.says R.toRowW dl [] fun f vs => PySem.call f vs := g11 say
theorem holdsR : R.Holds := HandSHeadRun.head_any (r := R) (q := q) (H := hk) (ob := ob) (M := 9000) (loose := loose) (d := dl) (kwd := []) ob_eq g1 g2 run g3 g4 g5 g6 g7 g8 g9 g10 g11s
end Law_k11
open PySem PySem.W PySem.Calls PyProof.Rows
theorem PySem.Challenge.cw_pursesbid_k11_texts_refused_holds : PySem.Challenge.rw_pursesbid_k11_texts_refused.Holds := by
  w_on; o_law
  exact Law_k11.holdsR

