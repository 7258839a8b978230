import PyProof.Rows.All
import PyProof.FactsAll.bool_1
import PyProof.FactsAll.NoneType_1
import PyProof.SliceList
import PyProof.DictKinds
import PyProof.DictTruth
import PyProof.TupleKey
import PyProof.DictWalks
import PyProof.EqKinds
import PyProof.EqLayable
import PyProof.ExcQuiet
import PyProof.ExcBaseAll.ValueError
import PyProof.ExcAttrAll.ValueError
import PyProof.ExcClass3
import PyProof.StationsW
import PyProof.SliceStr
import PyProof.StrBlockL
import PyProof.IsiH_tuple
import PyProof.Rows.Catch
import PyProof.Rows.CatchOwn
import KE.KIsAll
import Wide.FinOn
import OpenK.AllK
import Wide.All
import PySem.Challenge.RW_uf030030_02
set_option Elab.async false
set_option genSizeOf false
set_option autoImplicit false
set_option linter.all false
set_option genInjectivity false
section
namespace Mine

theorem zoi {α : Type} {a b : α} : (some a = some b) = (a = b) := Option.some.injEq a b
theorem zgz {α : Type} {a : α} {l : List α} : (a :: l)[0]? = some a := rfl
theorem zgs {α : Type} {a : α} {l : List α} {i : Nat} : (a :: l)[i + 1]? = l[i]? := rfl
theorem zlc {α : Type} {a : α} {l : List α} : (a :: l).length = l.length + 1 := rfl
theorem zln {α : Type} : ([] : List α).length = 0 := rfl
theorem zcn {α : Type} {a : α} {l : List α} : ((a :: l) = []) = False := eq_false (List.cons_ne_nil a l)
theorem znt {b : Bool} : (¬b = true) = (b = false) := by simp
theorem zza {n : Nat} : 0 + n = n := Nat.zero_add n
theorem zta {p : Prop} : (True ∧ p) = p := true_and p
theorem zat {p : Prop} : (p ∧ True) = p := and_true p
theorem zel {α : Type} {p : α → Prop} {a : α} : (∃ x, a = x ∧ p x) = p a := by simp

open PySem
structure RawD (h : Heap) (a : Addr) (es : Array DictEntry) (ep : Nat) (o : Obj) : Prop where
  here : h.get? a = some o
  ex : o.ExactDict
  dat : o.data = .dict es ep
noncomputable def Finds (prog : Program) (w : World) (a : Addr) (o : Obj) (kvs : List (Int × Value)) : Prop :=
  ∀ (A : Around) (E : Value → Shared → Prop) (s : Shared) (k : Int) (t : Tok) (i : Nat) (Q : Option Nat → Shared → Prop), s.heap.get? a = some o → (kvs.findIdx? fun kv => decide (kv.1 = k)) = some i → Q (some i) s → wpAny (model prog w) A (dictFind a (.int k t) (hashInt k)) Q E s
noncomputable def ValsAre (es : Array DictEntry) (kvs : List (Int × Value)) : Prop := ∀ (i : Nat) (kv : Int × Value), kvs[i]? = some kv → ∃ e : DictEntry, es[i]? = some e ∧ e.val = kv.2
section
variable {prog : Program} {w : World} {A : Around} {E : Value → Shared → Prop} {s : Shared} {d : Addr} {es : Array DictEntry} {ep : Nat} {o : Obj}
theorem RawD.keeps {h h' : Heap} (x : RawD h d es ep o) (k : ∀ o, h.get? d = some o → h'.get? d = some o) : RawD h' d es ep o := ⟨k o x.here, x.ex, x.dat⟩
theorem RawD.typeIs (x : RawD s.heap d es ep o) : s.TypeIs (.ref d) "dict" := ⟨o, x.here, x.ex.1⟩
theorem find_at {kvs : List (Int × Value)} {k : Int} {v : Value} (h : valueAt kvs k = some v) : ∃ i, (kvs.findIdx? fun kv => decide (kv.1 = k)) = some i ∧ kvs[i]? = some (k, v) := by
  unfold valueAt at h
  rw [Option.map_eq_some_iff] at h
  obtain ⟨kv, h, rfl⟩ := h
  induction kvs with
  | nil => cases h
  | cons p l ih =>
    rw [List.find?_cons] at h
    rw [List.findIdx?_cons]
    by_cases q : p.1 = k
    · rw [decide_eq_true q] at h
      cases h
      exact ⟨0, by rw [decide_eq_true q]; rfl, by rw [← q]; rfl⟩
    · rw [decide_eq_false q] at h
      obtain ⟨i, h1, h2⟩ := ih h
      exact ⟨i + 1, by rw [decide_eq_false q, h1]; rfl, h2⟩
theorem raw_get {kvs : List (Int × Value)} {k : Int} {t : Tok} {v : Value} {Q : Value → Shared → Prop} (hR : RawD s.heap d es ep o) (hF : Finds prog w d o kvs) (hp : ValsAre es kvs) (hv : valueAt kvs k = some v)
    (h : Q v { s with toks := s.toks + 1 }) : wpAny (model prog w) A (getItem (.ref d) (.int k t)) Q E s := by
  have hT := hR.typeIs
  obtain ⟨i, hi, hx⟩ := find_at hv
  obtain ⟨e, he, hev⟩ := hp i _ hx
  unfold getItem
  try with_reducible refine wpAny_holding ?_
  refine wpAny_bind (wpAny_sequenceKey hT (by decide) ?_)
  refine wpAny_bind (wpAny_callSpecial?_slot (name := Str.ofString "__getitem__") hT slot_dict_getitem
    (wpAny_call_entry slot_dict_getitem hT entry_dict_getitem ?_ (args_dict_getitem _ _)))
  show wpAny _ _ (dictGet d (.int k t) >>= _) _ _ s
  refine wpAny_bind ?_
  unfold dictGet
  try with_reducible refine wpAny_holding ?_
  refine wpAny_bind (wpAny_pyHash_int (wpAny_bind (hF _ _ _ k t i _ hR.here hi ?_)))
  refine wpAny_bind (wpAny_dictEntries (s := { s with toks := s.toks + 1 }) hR.here hR.dat (wpAny_pure ?_))
  replace hev : v = e.val := hev.symm
  subst hev
  rw [he]
  exact wpAny_pure ⟨_, rfl, wpAny_pure h⟩
theorem raw_set {key v : Value} {hsh : Int} {tk : Nat} {Q : Unit → Shared → Prop} (hR : RawD s.heap d es ep o)
    (hh : ∀ (E : Value → Shared → Prop) (Q : Int → Shared → Prop), Q hsh { s with toks := s.toks + tk } → wpAny (model prog w) A.in1 (pyHash key) Q E s)
    (hn : ∀ (E : Value → Shared → Prop) (Q : Option Nat → Shared → Prop), Q none { s with toks := s.toks + tk } → wpAny (model prog w) A.in1 (dictFind d key hsh) Q E { s with toks := s.toks + tk })
    (hz : es.size ≤ sizeLine)
    (hQ : ∀ h' o', RawD h' d (es.push ⟨hsh, key, v⟩) (ep + 1) o' → Heap.SameBut d s.heap h' → Q () { s with heap := h', toks := s.toks + tk }) : wpAny (model prog w) A (setItem (.ref d) key v) Q E s := by
  have hT := hR.typeIs
  unfold setItem
  try with_reducible refine wpAny_holding ?_
  refine wpAny_bind (wpAny_sequenceKey hT (by decide) ?_)
  refine wpAny_bind (wpAny_callSpecial?_slot (name := Str.ofString "__setitem__") hT slot_dict_setitem
    (wpAny_call_entry slot_dict_setitem hT entry_dict_setitem ?_ (args_dict_setitem _ _ _)))
  show wpAny _ _ (Builtin.Dict.notOrdered "__setitem__" ⟨[.ref d, key, v], []⟩ >>= _) _ _ s
  refine wpAny_bind (wpAny_notOrdered_dict hT ?_)
  show wpAny _ _ (dictSet d key v >>= _) _ _ s
  refine wpAny_bind ?_
  unfold dictSet
  try with_reducible refine wpAny_holding ?_
  refine wpAny_bind (hh _ _ ?_)
  unfold dictSetHashed
  try with_reducible refine wpAny_holding ?_
  refine wpAny_bind (hn _ _ ?_)
  refine wpAny_bind (wpAny_rule (wpAny_updateDictKeys (hz := hz) (s := { s with toks := s.toks + tk }) hR.here hR.dat (wpAny_pure ⟨.none, rfl, wpAny_pure (hQ _ _ ⟨Heap.get?_update_self _ hR.here (Obj.isFreed_of_dict (Obj.data_mapDictKeys hR.dat _)), hR.ex.mapDictKeys _, Obj.data_mapDictKeys hR.dat _⟩ (Heap.SameBut.update ..))⟩)))
theorem raw_len {Q : Value → Shared → Prop} (hd : (d == sysModules) = false) (hR : RawD s.heap d es ep o) (hfit : (es.size : Int) < 2 ^ 63)
    (h : Q (.int es.size (s.toks + 1)) { s with toks := s.toks + 1 + 1 }) : wpAny (model prog w) A (call (.builtin "len") [.ref d]) Q E s := by
  have hT := hR.typeIs
  refine Calls.call_function_entry kind_len plain_len entry_len (args_len1 _) ?_
  unfold Builtin.«len»
  refine wpAny_bind (m := oneArg "len" _) (wpAny_pure ?_)
  refine wpAny_bind (m := callSpecial? (.ref d) (Str.ofString "__len__")) (wpAny_callSpecial?_slot (name := Str.ofString "__len__") hT F.slot_dict_len
    (wpAny_call_entry F.slot_dict_len hT F.entry_dict_len ?_ (F.args_dict_len_1 _)))
  show wpAny _ _ (dictSize d >>= _) _ _ s
  unfold dictSize
  refine wpAny_bind (wpAny_bind (wpAny_dictEntries hR.here hR.dat (wpAny_pure ?_)))
  show wpAny _ _ (Builtin.Dict.pendingCount d >>= _) _ _ s
  refine wpAny_bind (wpAny_pendingCount_other hd ?_)
  refine wpAny_ret_mkInt ?_
  show wpAny _ _ (holding [Value.int ((es.size : Int) + ((0 : Nat) : Int)) s.toks] _ >>= _) _ _ _
  rw [show (es.size : Int) + ((0 : Nat) : Int) = es.size from Int.add_zero _]
  refine wpAny_bind (wpAny_holding (wpAny_pure ?_))
  refine wpAny_bind (wpAny_letGo ?_)
  show wpAny _ _ (if ((es.size : Nat) : Int) < 0 then _ else _) _ _ _
  rw [if_neg (by omega)]
  show wpAny _ _ (if ((es.size : Nat) : Int) ≥ 2 ^ 63 then _ else _) _ _ _
  rw [if_neg (by omega)]
  exact wpAny_bind (wpAny_mkInt (wpAny_pure ⟨_, rfl, h⟩))
theorem raw_iter {Q : Value → Shared → Prop} (hd : (d == sysModules) = false) (hR : RawD s.heap d es ep o)
    (hQ : Q (.ref s.heap.objs.size) { s with heap := s.heap.push { cls := .type "dict_keyiterator", data := .fields #[.ref d, .int 0 0, .int es.size 0, .int ep 0] } }) : wpAny (model prog w) A (pyIter (.ref d)) Q E s := by
  have hT := hR.typeIs
  refine wpAny_pyIter_slot hT F.slot_dict_iter (wpAny_call_entry F.slot_dict_iter hT F.entry_dict_iter ?_ (F.args_dict_iter_1 _))
  unfold Builtin.«dict.__iter__»
  refine wpAny_bind ?_
  unfold Builtin.Dict.dictSlotNone
  refine wpAny_bind (wpAny_notOrdered_dict hT ?_)
  show wpAny _ _ (pure (Value.ref d)) _ _ s
  refine wpAny_pure ?_
  show wpAny _ _ (Builtin.Dict.showsAll d >>= _) _ _ s
  unfold Builtin.Dict.showsAll
  rw [if_neg (by rw [hd]; exact Bool.false_ne_true)]
  refine wpAny_bind (wpAny_pure (wpAny_bind (wpAny_dictEntries hR.here hR.dat (wpAny_bind (wpAny_dictEpoch hR.here hR.dat ?_)))))
  exact wpAny_bind (wpAny_newObj_type (wpAny_pure ⟨_, rfl, "dict_keyiterator", _, ⟨_, Heap.get?_push_size _ rfl, rfl⟩, F.slot_dict_keyiterator_next.lookup, hQ⟩))
theorem raw_item {it : Addr} {i : Nat} {e : DictEntry} {Q : Option Value → Shared → Prop} (hit : s.heap.IsKeyIter it d i es.size ep) (hR : RawD s.heap d es ep o) (hx : es[i]? = some e)
    (hQ : ∀ h', h'.IsKeyIter it d (i + 1) es.size ep → Heap.SameBut it s.heap h' → Q (some e.key) { s with heap := h' }) : wpAny (model prog w) A (pyNext (.ref it)) Q E s := by
  obtain ⟨oi, ho, hc, hd⟩ := id hit
  unfold pyNext
  refine wpAny_bind (wpAny_attempt (wpAny_callSpecial?_slot (name := Str.ofString "__next__") hit.typeIs F.slot_dict_keyiterator_next
    (wpAny_call_entry F.slot_dict_keyiterator_next hit.typeIs F.entry_dict_keyiterator_next ?_ (F.args_dict_keyiterator_next_1 _))))
  refine wpAny_bind (wpAny_pure (wpAny_bind (wpAny_bind ?_)))
  first | refine wpAny_bind (wpAny_typeNameOfWhole_keyiter hit.typeIs (wpAny_pure ?_)) | refine wpAny_bind (wpAny_typeNameOf_keyiter hit.typeIs (wpAny_pure ?_))
  refine wpAny_bind (wpAny_fieldsOf ho hd ?_)
  have hown : Builtin.Dict_items.ownsTuple "dict_keyiterator" = false := by decide
  simp only [hown, Bool.false_eq_true, if_false]
  show wpAny _ _ (if (Value.ref d == Value.none) = true then _ else _) _ _ s
  rw [if_neg (show ¬ ((Value.ref d == Value.none) = true) from Bool.false_ne_true)]
  refine wpAny_bind (wpAny_pure (wpAny_bind (wpAny_dictEntries hR.here hR.dat ?_)))
  rw [if_neg (by simp)]
  refine wpAny_bind (wpAny_pure (wpAny_bind (wpAny_dictEpoch hR.here hR.dat ?_)))
  rw [if_neg (by simp)]
  refine wpAny_pure ?_
  simp only [show ¬ ((i : Int) < 0) from by omega, if_false, Int.toNat_natCast, hx]
  refine wpAny_bind ?_
  first | refine wpAny_bind (wpAny_typeNameOfWhole_keyiter hit.typeIs (wpAny_pure ?_)) | refine wpAny_bind (wpAny_typeNameOf_keyiter hit.typeIs (wpAny_pure ?_))
  refine wpAny_bind (wpAny_isOneOf_keyiter hit.typeIs ?_)
  show wpAny _ _ (setField (.ref it) 1 (rawInt ((i : Int) + 1)) >>= _) _ _ s
  refine wpAny_bind (wpAny_setField ho hd (by simp) ?_)
  have hit' : (s.heap.update it (Obj.mapFields (·.setIfInBounds 1 (rawInt ((i : Int) + 1))))).IsKeyIter it d (i + 1) es.size ep :=
    ⟨_, Heap.get?_update_self _ ho (Obj.isFreed_of_fields (Obj.data_mapFields hd _)), (Obj.cls_mapFields ..).trans hc, by rw [Obj.data_mapFields hd]; simp [rawInt]⟩
  refine wpAny_bind (wpAny_holding ?_)
  refine wpAny_bind (wpAny_isOneOf_keyiter (s := { s with heap := s.heap.update it (Obj.mapFields (·.setIfInBounds 1 (rawInt ((i : Int) + 1)))) }) hit'.typeIs ?_)
  show wpAny _ _ (pure e.key) _ _ _
  exact wpAny_pure (wpAny_pure ⟨_, rfl, wpAny_pure (hQ _ hit' (Heap.SameBut.update ..))⟩)
theorem raw_end {it : Addr} {Q : Option Value → Shared → Prop} (hh : A.handled = none) (hit : s.heap.IsKeyIter it d es.size es.size ep) (hR : RawD s.heap d es ep o)
    (hQ : ∀ h', Heap.ExtBut it s.heap h' → Q none { s with heap := h' }) : wpAny (model prog w) A (pyNext (.ref it)) Q E s := by
  obtain ⟨oi, ho, hc, hd⟩ := id hit
  unfold pyNext
  refine wpAny_bind (wpAny_attempt (wpAny_callSpecial?_slot (name := Str.ofString "__next__") hit.typeIs F.slot_dict_keyiterator_next
    (wpAny_call_entry F.slot_dict_keyiterator_next hit.typeIs F.entry_dict_keyiterator_next ?_ (F.args_dict_keyiterator_next_1 _))))
  refine wpAny_bind (wpAny_pure (wpAny_bind (wpAny_bind ?_)))
  first | refine wpAny_bind (wpAny_typeNameOfWhole_keyiter hit.typeIs (wpAny_pure ?_)) | refine wpAny_bind (wpAny_typeNameOf_keyiter hit.typeIs (wpAny_pure ?_))
  refine wpAny_bind (wpAny_fieldsOf ho hd ?_)
  have hown : Builtin.Dict_items.ownsTuple "dict_keyiterator" = false := by decide
  simp only [hown, Bool.false_eq_true, if_false]
  show wpAny _ _ (if (Value.ref d == Value.none) = true then _ else _) _ _ s
  rw [if_neg (show ¬ ((Value.ref d == Value.none) = true) from Bool.false_ne_true)]
  refine wpAny_bind (wpAny_pure (wpAny_bind (wpAny_dictEntries hR.here hR.dat ?_)))
  rw [if_neg (by simp)]
  refine wpAny_bind (wpAny_pure (wpAny_bind (wpAny_dictEpoch hR.here hR.dat ?_)))
  rw [if_neg (by simp)]
  refine wpAny_pure ?_
  simp only [show ¬ ((es.size : Int) < 0) from by omega, if_false, Int.toNat_natCast, Array.getElem?_eq_none (Nat.le_refl es.size)]
  refine wpAny_bind ?_
  first | refine wpAny_bind (wpAny_typeNameOfWhole_keyiter hit.typeIs (wpAny_pure ?_)) | refine wpAny_bind (wpAny_typeNameOf_keyiter hit.typeIs (wpAny_pure ?_))
  show wpAny _ _ (setField (.ref it) 0 .none >>= _) _ _ s
  refine wpAny_bind (wpAny_setField ho hd (by simp) ?_)
  show wpAny _ _ (newExc (.type "StopIteration") [] >>= _) _ _ _
  refine wpAny_bind ?_
  simp only [newExc, newTuple]
  refine wpAny_bind (wpAny_newObj_type ?_ (by size_fits))
  refine wpAny_bind (m := firstArgMember _ _) (wpAny_of_eq (a := Value.none) (by first | rfl | (simp only [firstArgMember]; rfl)) ?_)
  refine wpAny_newObj_type ?_ (by size_fits)
  simp only [raiseNew]
  refine wpAny_bind (wpAny_handled ?_)
  rw [show A.in1.handled = none from hh]
  refine wpAny_bind (wpAny_pure (wpAny_throw ?_))
  refine wpAny_bind (wpAny_isInstance (T := "StopIteration") (b := true) ⟨_, Heap.get?_push_size _ rfl, rfl⟩ isSubtype_stop ?_)
  exact wpAny_pure (hQ _ (((Heap.SameBut.update ..).extBut.push _).push _))
theorem raw_walk (hh : A.handled = none) (I d : Addr) (hne : d ≠ I) (es : Array DictEntry) (ep : Nat) (o : Obj) :
    Walks prog w A I [I, d] [I] es.size (fun i v => ∃ e, es[i]? = some e ∧ v = e.key) (fun i h => h.IsKeyIter I d i es.size ep ∧ RawD h d es ep o) where
  sub := fun b hb => by simp at hb; simp [hb]
  frame := fun _ _ _ st hk => ⟨st.1.at fun o e => hk I (by simp) o e, st.2.keeps fun o e => hk d (by simp) o e⟩
  item := fun i s Q E hi st hQ => raw_item st.1 st.2 (e := es[i]) (by simp [hi]) fun h' hit' hs' => hQ _ h' s.toks ⟨_, by simp [hi], rfl⟩ ⟨hit', st.2.keeps fun o e => hs'.extBut d o hne e⟩ fun b o hb e => hs'.extBut b o (fun h => hb (by simp [h])) e
  done := fun s Q E st hQ => raw_end hh st.1 st.2 fun h' he' => hQ h' s.toks fun b o hb e => he' b o (fun h => hb (by simp [h])) e
  self := fun _ _ _ _ st hQ => wpAny_pyIter_keyiter st.1 hQ
end
end Mine
end
section
namespace Mine
open PySem
theorem Ui {k : Int} (h0 : 0 ≤ k) (h1 : k ≤ 10000) : hashInt k = k := by
  have e : rawHash k = k := by
    unfold rawHash
    obtain ⟨n, rfl⟩ := Int.eq_ofNat_of_zero_le h0
    have hn : n % (2 ^ 61 - 1) = n := Nat.mod_eq_of_lt (by omega)
    show (if ((if (n : Int) < 0 then -((n % (2 ^ 61 - 1) : Nat) : Int) else ((n % (2 ^ 61 - 1) : Nat) : Int)) == -1) = true then -2 else (if (n : Int) < 0 then -((n % (2 ^ 61 - 1) : Nat) : Int) else ((n % (2 ^ 61 - 1) : Nat) : Int))) = (n : Int)
    rw [hn, if_neg (show ¬ (n : Int) < 0 by omega), if_neg (by rw [beq_iff_eq]; omega)]
  unfold hashInt
  rw [e, if_neg (by rw [beq_iff_eq]; omega)]
theorem V7 {p : Nat → Bool} {i : Nat} (hp : p i = true) (hn : ∀ j, j < i → p j = false) : ∀ {m : Nat}, i < m → ∃ rest, (List.range m).filter p = i :: rest
  | 0 => fun h => absurd h (Nat.not_lt_zero _)
  | m + 1 => fun h => by
    rw [List.range_succ, List.filter_append]
    by_cases q : i < m
    · obtain ⟨rest, e⟩ := V7 hp hn q
      exact ⟨rest ++ List.filter p [m], by rw [e]; rfl⟩
    · obtain rfl : i = m := by omega
      have : (List.range i).filter p = [] := List.filter_eq_nil_iff.mpr fun j hj => by rw [hn j (List.mem_range.mp hj)]; exact Bool.false_ne_true
      exact ⟨[], by rw [this, List.filter_cons, if_pos hp]; rfl⟩
noncomputable def SmallKeys (es : Array DictEntry) : Prop := ∀ e ∈ es, ∃ j t, e.key = .int j t ∧ e.hash = j ∧ 0 ≤ j ∧ j ≤ 10000
section
variable {prog : Program} {w : World} {A : Around} {E : Value → Shared → Prop} {s : Shared} {d : Addr} {es : Array DictEntry} {ep : Nat} {o : Obj}
theorem keyIn {kvs : List (Int × Value)} (hk : KeysOf (intKind prog w) es) (hp : Pairs (intKind prog w) es.toList kvs) {e : DictEntry} (he : e ∈ es) : ∃ kv ∈ kvs, ∃ t, e.key = .int kv.1 t ∧ e.hash = hashInt kv.1 := by
  obtain ⟨k, h1, h2⟩ := hk e he
  obtain ⟨t, ht⟩ := Value.isInt_shape h1
  have hm : ∃ kv ∈ kvs, kv.1 = k := by
    have he : e ∈ es.toList := Array.mem_toList_iff.mpr he
    clear hk
    generalize es.toList = L at hp he
    induction hp with
    | nil => cases he
    | @cons e' kv l m q1 q2 _ ih =>
      rcases List.mem_cons.mp he with rfl | he
      · exact ⟨kv, .head _, (intKind prog w).inj _ _ _ q1 h1⟩
      · obtain ⟨x, y, z⟩ := ih he; exact ⟨x, .tail _ y, z⟩
  obtain ⟨kv, hm, rfl⟩ := hm
  exact ⟨kv, hm, t, ht, h2⟩
theorem smallKeys {kvs : List (Int × Value)} (hk : KeysOf (intKind prog w) es) (hp : Pairs (intKind prog w) es.toList kvs) (hs : ∀ kv ∈ kvs, 0 ≤ kv.1 ∧ kv.1 ≤ 10000) : SmallKeys es := by
  intro e he
  obtain ⟨kv, hm, t, ht, h2⟩ := keyIn hk hp he
  obtain ⟨b0, b1⟩ := hs kv hm
  exact ⟨kv.1, t, ht, h2.trans (Ui b0 b1), b0, b1⟩
theorem pairs_vals {kvs : List (Int × Value)} (hp : Pairs (intKind prog w) es.toList kvs) (e : DictEntry) : ValsAre (es.push e) kvs := by
  have f : ∀ {l : List DictEntry} {m : List (Int × Value)}, Pairs (intKind prog w) l m → ∀ (i : Nat) (kv : Int × Value), m[i]? = some kv → ∃ e : DictEntry, l[i]? = some e ∧ e.val = kv.2 := by
    intro l m h
    induction h with
    | nil => intro i kv q; simp at q
    | cons q1 q2 _ ih =>
      intro i kv q
      cases i with
      | zero => simp at q; subst q; exact ⟨_, rfl, q2⟩
      | succ i => simpa using ih i kv (by simpa using q)
  intro i kv q
  obtain ⟨e', h1, h2⟩ := f hp i kv q
  refine ⟨e', ?_, h2⟩
  rw [Array.getElem?_toList] at h1
  obtain ⟨hlt, h1⟩ := Array.getElem?_eq_some_iff.mp h1
  rw [Array.getElem?_push_lt hlt, h1]
theorem finds_push {kvs : List (Int × Value)} {e : DictEntry} (hd : o.data = .dict (es.push e) ep) (hk : SmallKeys es) (hp : Pairs (intKind prog w) es.toList kvs) (hb : carriedByValue e.key = true ∨ ¬ (0 ≤ e.hash ∧ e.hash ≤ 10000)) : Finds prog w d o kvs := by
  intro A E s k t i Q ho hi hQ
  have hidx : (es.toList.findIdx? fun e => e.key.isInt k) = some i := (hp.findIdx k).trans hi
  obtain ⟨hlt, hik, hbef⟩ := List.findIdx?_eq_some_iff_getElem.mp hidx
  have hlt' : i < es.size := by simpa using hlt
  have hik : es[i].key.isInt k = true := by simpa using hik
  obtain ⟨j, u, hj, hh, b0, b1⟩ := hk es[i] (Array.getElem_mem hlt')
  obtain rfl : j = k := by rw [hj] at hik; simpa [Value.isInt] using hik
  have hash : hashInt j = j := Ui b0 b1
  have hpi : ((es.push e)[i]?.map (·.hash) == some (hashInt j)) = true := by
    rw [Array.getElem?_push_lt hlt', Option.map_some, hh, hash]; simp
  have hpj : ∀ m, m < i → ((es.push e)[m]?.map (·.hash) == some (hashInt j)) = false := by
    intro m hm
    have hm' : m < es.size := Nat.lt_trans hm hlt'
    rw [Array.getElem?_push_lt hm', Option.map_some, hash]
    obtain ⟨j', u', hj', hh', _, _⟩ := hk es[m] (Array.getElem_mem hm')
    rw [hh']
    have : es[m].key.isInt j = false := by simpa using hbef m hm
    rw [hj'] at this
    simpa [Value.isInt] using this
  obtain ⟨rest, hrest⟩ := V7 hpi hpj (m := (es.push e).size) (by rw [Array.size_push]; omega)
  have hall : ((Value.int j t :: (placesWithHash (es.push e).size (fun i => (es.push e)[i]?.map (·.hash)) (hashInt j)).filterMap fun i => (es.push e)[i]?.map (·.key)).all carriedByValue) = true := by
    rw [List.all_cons, List.all_eq_true.mpr, Bool.and_true]
    · rfl
    · intro v hv
      obtain ⟨m, hm, hv⟩ := List.mem_filterMap.mp hv
      have hm2 : ((es.push e)[m]?.map (·.hash) == some (hashInt j)) = true := (List.mem_filter.mp hm).2
      clear hm
      cases he : (es.push e)[m]? with
      | none => rw [he] at hv; cases hv
      | some e' =>
        rw [he] at hv hm2
        obtain rfl : e'.key = v := by simpa using hv
        rcases Array.mem_push.mp (Array.mem_of_getElem? he) with q | rfl
        · obtain ⟨j', u', hj', _⟩ := hk e' q
          rw [hj']; rfl
        · rcases hb with hb | hb
          · exact hb
          · refine absurd ?_ hb
            have : e'.hash = hashInt j := Option.some.inj (eq_of_beq hm2)
            rw [this, hash]; exact ⟨b0, b1⟩
  unfold dictFind
  try with_reducible refine wpAny_holding ?_
  refine wpAny_bind (wpAny_dictEntries ho hd ?_)
  dsimp only
  rw [if_pos hall]
  have hpl : placesWithHash (es.push e).size (fun i => (es.push e)[i]?.map (·.hash)) (hashInt j) = i :: rest := hrest
  rw [hpl]
  unfold dictWalkPlain
  refine wpAny_bind ?_
  rw [List.forIn_cons]
  refine wpAny_bind ?_
  rw [Array.getElem?_push_lt hlt']
  dsimp only
  rw [if_pos (by rw [hh, hash]; simp), hj]
  refine wpAny_bind (wpAny_dictEpoch ho hd (wpAny_bind (wpAny_eqBool_int (wpAny_bind (wpAny_dictEpoch ho hd ?_)))))
  rw [if_neg (by simp), if_pos (by simp)]
  exact wpAny_bind (wpAny_rule (wpAny_pure (wpAny_pure (wpAny_pure hQ))))
theorem U9 {M : Model} {α : Type} {p : Prop} [Decidable p] {x y : Sem α} {Q : α → Shared → Prop} (h : ¬ p) (hy : wpAny M A y Q E s) : wpAny M A (if p then x else y) Q E s := by rw [if_neg h]; exact hy
theorem Nx {M : Model} {α : Type} {p : Prop} [Decidable p] {x y : Sem α} {Q : α → Shared → Prop} (h : p) (hx : wpAny M A x Q E s) : wpAny M A (if p then x else y) Q E s := by rw [if_pos h]; exact hx
theorem Vt {key : Value} {h : Int} {Q : Option Nat → Shared → Prop} (ho : s.heap.get? d = some o) (hd : o.data = .dict es ep) (hk : SmallKeys es) (hs : match key with | .none => True | .bool _ => True | .ref _ => True | _ => False) (hh : ∀ e ∈ es, e.hash ≠ h) (hQ : Q none s) : wpAny (model prog w) A (dictFind d key h) Q E s := by
  have hpl : placesWithHash es.size (fun i => es[i]?.map (·.hash)) h = [] := by
    refine List.filter_eq_nil_iff.mpr fun i hi => ?_
    show ¬ (es[i]?.map (·.hash) == some h) = true
    cases he : es[i]? with
    | none => exact Bool.false_ne_true
    | some e => rw [Option.map_some, beq_iff_eq]; exact fun q => hh e (Array.mem_of_getElem? he) (Option.some.inj q)
  unfold dictFind
  try with_reducible refine wpAny_holding ?_
  refine wpAny_bind (wpAny_dictEntries ho hd ?_)
  cases key with
  | ref r =>
    dsimp only
    rw [hpl]
    dsimp only [List.filterMap_nil]
    have hany : ¬ (es.any fun e => e.key == Value.ref r && e.hash != h) = true := by
      rw [← Array.any_toList, List.any_eq_true]
      rintro ⟨e, he, hc⟩
      obtain ⟨j, t, hj, _⟩ := hk e (Array.mem_toList_iff.mp he)
      rw [hj] at hc
      simp at hc
    refine U9 Bool.false_ne_true (U9 hany (U9 Bool.false_ne_true (wpAny_bind ?_)))
    unfold tableMayTell
    refine Nx rfl (wpAny_pure (U9 Bool.false_ne_true (wpAny_bind ?_)))
    rw [List.forIn_nil]
    exact wpAny_pure (wpAny_pure hQ)
  | none =>
    dsimp only
    rw [hpl]
    exact Nx rfl (wpAny_bind (wpAny_pure (wpAny_pure hQ)))
  | bool b =>
    dsimp only
    rw [hpl]
    exact Nx rfl (wpAny_bind (wpAny_pure (wpAny_pure hQ)))
  | _ => exact hs.elim
end
end Mine
end
section
set_option maxRecDepth 100000
namespace Mine
open PySem
section
variable {prog : Program} {w : World} {A : Around} {E : Value → Shared → Prop} {s : Shared} {d : Addr} {es : Array DictEntry} {ep : Nat} {o : Obj}
theorem hash_none {Q : Int → Shared → Prop} (h : Q 0xFCA86420 { s with toks := s.toks + 1 }) : wpAny (model prog w) A (pyHash .none) Q E s := by
  have hT : s.TypeIs .none "NoneType" := rfl
  unfold pyHash
  refine wpAny_bind ?_
  rw [cRoomFor, if_neg (by decide)]; refine wpAny_pure ?_
  refine wpAny_bind (wpAny_specialOf hT F.slot_NoneType_hash.lookup ?_)
  rw [if_neg (by rw [beq_builtin_none]; exact Bool.false_ne_true)]
  refine wpAny_bind (wpAny_specialOf hT F.slot_NoneType_hash.lookup ?_)
  show wpAny _ _ (callSpecialIfBoundUnlessNone? .none "__hash__" _ >>= _) Q E s
  refine wpAny_bind (wpAny_callSpecialIfBoundUnlessNone?_slot hT F.slot_NoneType_hash
    (wpAny_call_entry F.slot_NoneType_hash hT F.entry_NoneType_hash
      (show wpAny _ _ (do ret (← mkInt 0xFCA86420)) _ _ s from wpAny_ret_mkInt ?_) (F.args_NoneType_hash_1 _)))
  show wpAny _ _ (if (decide (-(2 : Int) ^ 63 ≤ 0xFCA86420) && decide ((0xFCA86420 : Int) < 2 ^ 63)) = true then _ else _) Q E _
  rw [if_pos (by decide)]
  exact wpAny_pure h
theorem hash_true {Q : Int → Shared → Prop} (h : Q 1 { s with toks := s.toks + 1 }) : wpAny (model prog w) A (pyHash (.bool true)) Q E s := by
  have hT : s.TypeIs (.bool true) "bool" := rfl
  unfold pyHash
  refine wpAny_bind ?_
  rw [cRoomFor, if_neg (by decide)]; refine wpAny_pure ?_
  refine wpAny_bind (wpAny_specialOf hT F.slot_bool_hash.lookup ?_)
  rw [if_neg (by rw [beq_builtin_none]; exact Bool.false_ne_true)]
  refine wpAny_bind (wpAny_specialOf hT F.slot_bool_hash.lookup ?_)
  show wpAny _ _ (callSpecialIfBoundUnlessNone? (.bool true) "__hash__" _ >>= _) Q E s
  refine wpAny_bind (wpAny_callSpecialIfBoundUnlessNone?_slot hT F.slot_bool_hash
    (wpAny_call_entry F.slot_bool_hash hT entry_int_hash
      (show wpAny _ _ (do ret (← mkInt 1)) _ _ s from wpAny_ret_mkInt ?_) (args_int_hash _)))
  show wpAny _ _ (if (decide (-(2 : Int) ^ 63 ≤ 1) && decide ((1 : Int) < 2 ^ 63)) = true then _ else _) Q E _
  rw [if_pos (by decide)]
  exact wpAny_pure h
theorem one_hash : ¬ (0 ≤ tupleKeyHash (intKind prog w) [1] ∧ tupleKeyHash (intKind prog w) [1] ≤ 10000) := by
  have : tupleKeyHash (intKind prog w) [1] = reduceHash (Builtin.Tuple.tupleHashOf [1]) := rfl
  rw [this]
  decide +kernel
theorem find_str {x : Str} {t : Tok} {h : Int} {Q : Option Nat → Shared → Prop} (ho : s.heap.get? d = some o) (hd : o.data = .dict es ep) (hk : SmallKeys es) (hQ : Q none s) : wpAny (model prog w) A (dictFind d (.str x t) h) Q E s := by
  unfold dictFind
  try with_reducible refine wpAny_holding ?_
  refine wpAny_bind (wpAny_dictEntries ho hd ?_)
  dsimp only
  have old : wpAny (model prog w) A (dictWalkPlain d (.str x t) h es (placesWithHash es.size (fun i => es[i]?.map (·.hash)) h)) Q E s := by
    refine wpAny_bind ?_
    refine wpAny_forIn_list _ (fun rest b s' => s' = s ∧ b = (none, ())) _ ?_ ?_ _ _ ⟨rfl, rfl⟩
    · rintro i rest b s' ⟨rfl, rfl⟩
      cases he : es[i]? with
      | none => exact wpAny_pure ⟨rfl, rfl⟩
      | some e =>
        obtain ⟨j, u, hj, _⟩ := hk e (Array.mem_of_getElem? he)
        dsimp only
        by_cases hh : (e.hash == h) = true
        · rw [if_pos hh, hj]
          refine wpAny_bind (wpAny_dictEpoch ho hd (wpAny_bind (SeqAt.EqAt.int_str j u x t prog w E _ (wpAny_bind (wpAny_dictEpoch ho hd ?_)))))
          refine U9 (by simp) (U9 Bool.false_ne_true (wpAny_bind (wpAny_rule (wpAny_pure ⟨rfl, rfl⟩))))
        · rw [if_neg hh]; exact wpAny_pure ⟨rfl, rfl⟩
    · rintro b s' ⟨rfl, rfl⟩; exact wpAny_pure hQ
  have hall : ((Value.str x t :: (placesWithHash es.size (fun i => es[i]?.map (·.hash)) h).filterMap fun i => es[i]?.map (·.key)).all carriedByValue) = true := by
    rw [List.all_cons, List.all_eq_true.mpr, Bool.and_true]
    · rfl
    · intro v hv
      obtain ⟨m, _, hv⟩ := List.mem_filterMap.mp hv
      cases he : es[m]? with
      | none => rw [he] at hv; cases hv
      | some e =>
        rw [he] at hv
        obtain rfl : e.key = v := by simpa using hv
        obtain ⟨j, u, hj, _⟩ := hk e (Array.mem_of_getElem? he)
        rw [hj]; rfl
  by_cases hs : (es.all fun e => isExactStrKey e.key) = true
  · refine Nx hs ?_
    unfold foundByValue
    have : (es.findIdx? fun e => e.key.isStr x) = none := Array.findIdx?_eq_none_iff.mpr fun e he => by
      obtain ⟨j, u, hj, _⟩ := hk e he
      rw [hj]; rfl
    rw [this]
    exact wpAny_pure hQ
  · exact U9 hs (Nx hall old)
end
end Mine
end
section
set_option genSizeOfSpec false
namespace Mine
open PySem
set_option genInjectivity true in
inductive MV where
  | none | bool (b : Bool) | int (i : Int) | str (s : Str) | tup (l : List MV) | ref (a : Addr) | keys (d : Addr) | vals (d : Addr)
inductive MO where
  | list (l : List MV) | idict (l : List (Int × MV)) | odict (l : List (Int × MV)) (k : MV)
abbrev MH := Addr → Option MO
noncomputable def upd (μ : MH) (a : Addr) (o : MO) : MH := fun b => if b = a then some o else μ b
noncomputable def lst (μ : MH) (a : Addr) : Option (List MV) := match μ a with
  | some (.list l) => some l
  | _ => none
noncomputable def deep (μ : MH) : Nat → MV → Option PyData
  | _, .none => some .none
  | _, .bool b => some (.bool b)
  | _, .int i => some (.int i)
  | _, .str s => if PyData.strOk s then some (.str s) else none
  | n + 1, .tup l => (l.mapM (deep μ n)).map PyData.tuple
  | n + 1, .ref a => match lst μ a with
    | some l => (l.mapM (deep μ n)).map PyData.list
    | none => none
  | _, _ => none
noncomputable def keysOf {K : Type} (l : List (K × MV)) : List K := l.map (·.1)
noncomputable def lookI {K : Type} [DecidableEq K] (l : List (K × MV)) (k : K) : Option MV := (l.find? fun kv => kv.1 = k).map (·.2)
noncomputable def putI {K : Type} [DecidableEq K] (l : List (K × MV)) (k : K) (v : MV) : List (K × MV) :=
  if l.any (fun kv => kv.1 = k) then l.map (fun kv => if kv.1 = k then (kv.1, v) else kv) else l ++ [(k, v)]
noncomputable def delI {K : Type} [DecidableEq K] (l : List (K × MV)) (k : K) : List (K × MV) := l.filter fun kv => !decide (kv.1 = k)
noncomputable def chars (s : Str) : List MV := s.cps.toList.map fun c => .str ⟨#[c]⟩
noncomputable def itemsO (o : Option MO) : Option (List MV) := match o with
  | some (.list l) => some l
  | some (.idict l) => some (l.map fun kv => .int kv.1)
  | some (.odict l k) => some ((l.map fun kv => .int kv.1) ++ [k])
  | none => none
noncomputable def keysO (o : Option MO) : Option (List MV) := match o with
  | some (.idict l) => some (l.map fun kv => .int kv.1)
  | _ => none
noncomputable def valsO (o : Option MO) : Option (List MV) := match o with
  | some (.idict l) => some (l.map fun kv => kv.2)
  | _ => none
noncomputable def items (μ : MH) : MV → Option (List MV)
  | .tup l => some l
  | .str s => some (chars s)
  | .ref a => itemsO (μ a)
  | .keys a => keysO (μ a)
  | .vals a => valsO (μ a)
  | _ => none
noncomputable def truthyO (o : Option MO) : Option Bool := match o with
  | some (.list l) => if l.length ≤ 2 ^ 20 then some (!l.isEmpty) else none
  | _ => none
noncomputable def truthy (μ : MH) : MV → Option Bool
  | .none => some false
  | .bool b => some b
  | .int i => some (decide (i ≠ 0))
  | .ref a => truthyO (μ a)
  | _ => none
inductive BOp where | add | sub | mul | fdiv | mod | pow
inductive COp where | eq | ne | lt | le | gt | ge | isin | notin | is | isnot
inductive BI where | len | min2 | max2 | maxD | max1 | sorted | sortedR | sortedSet | list | dict | int | str | all
inductive MM where | append | extend | keys | values | get2 | pop2 | clear | update | count | index | join | split
inductive SK where | plain | range | rev | zip
inductive MT where | one (i : Nat) | tup (l : List Nat)
inductive TY where | int | bool | str | tuple | list | dict
  deriving DecidableEq
set_option genInjectivity false
inductive ME where
  | var (i : Nat)
  | glob (g : String)
  | cint (i : Int) | cstr (s : String) | cbool (b : Bool) | cnone
  | bin (op : BOp) (a b : ME)
  | neg (a : ME) | not (a : ME)
  | and (l : List ME) | or (l : List ME)
  | cmp (a : ME) (ops : List COp) (es : List ME)
  | ite (c a b : ME)
  | idx (a i : ME)
  | slice (a lo hi st : ME)
  | list (l : List ME) | tuple (l : List ME)
  | dict0 (s : Bool)
  | dict (ks vs : List ME)
  | call (f : String) (args : List ME)
  | bi (f : BI) (args : List ME)
  | isinst (e : ME) (t : TY)
  | meth (m : MM) (o : ME) (args : List ME)
  | comp (elt : ME) (t : MT) (k : SK) (its : List ME) (ifs : List ME)
inductive MS where
  | assign (i : Nat) (e : ME)
  | unpack (l : List Nat) (e : ME)
  | setidx (o i e : ME)
  | expr (e : ME)
  | ret (e : ME) | ret0
  | ite (c : ME) (a b : List MS)
  | for (t : MT) (k : SK) (its : List ME) (body : List MS)
  | while (c : ME) (body : List MS)
  | pass
  | raise0
  | tri (body : List MS)
  | opq (chk : List (Nat × Str) → List (Str × NameKind) → PySem.Stmt → Bool)
structure MFun where
  n : Nat
  body : List MS
inductive MFlow where | next | brk | cont | ret (v : MV)
abbrev MVars := Nat → Option MV
noncomputable def setv (vars : MVars) (i : Nat) (v : MV) : MVars := fun j => if j = i then some v else vars j
abbrev MQ := MV → MH → Prop
abbrev MX := String → MH → Prop
abbrev CallSpec := String → List MV → List Addr → MQ → MX → MH → Prop
noncomputable def fits (n : Nat) : Prop := n ≤ 2 ^ 20
noncomputable instance (n : Nat) : Decidable (fits n) := inferInstanceAs (Decidable (_ ≤ _))
noncomputable def small (i : Int) : Prop := -(2 ^ 63) ≤ i ∧ i < 2 ^ 63
noncomputable def allocM (fz : List Addr) (μ : MH) (o : MO) (Q : Addr → MH → Prop) : Prop := ∀ a, μ a = none → a ∉ fz → Q a (upd μ a o)
noncomputable def intsM (a b : MV) (P : Int → Int → Prop) : Prop := match a with
  | .int x => (match b with | .int y => P x y | _ => False)
  | _ => False
noncomputable def addM (fz : List Addr) (a b : MV) (Q : MQ) (μ : MH) : Prop := match a with
  | .int x => (match b with | .int y => Q (.int (x + y)) μ | _ => False)
  | .str x => (match b with | .str y => fits (x.length + y.length) ∧ Q (.str (x ++ y)) μ | _ => False)
  | .tup x => (match b with | .tup y => fits (x.length + y.length) ∧ Q (.tup (x ++ y)) μ | _ => False)
  | .ref a => (match b with | .ref b => ∃ x y, lst μ a = some x ∧ lst μ b = some y ∧ fits (x.length + y.length) ∧ allocM fz μ (.list (x ++ y)) fun c μ' => Q (.ref c) μ' | _ => False)
  | _ => False
noncomputable def binM (fz : List Addr) (op : BOp) (a b : MV) (Q : MQ) (μ : MH) : Prop := match op with
  | .add => addM fz a b Q μ
  | .sub => intsM a b fun x y => Q (.int (x - y)) μ
  | .mul => intsM a b fun x y => (small x ∨ small y) ∧ Q (.int (x * y)) μ
  | .fdiv => intsM a b fun x y => (y ≠ 0 ∧ small y) ∧ Q (.int (x.fdiv y)) μ
  | .mod => intsM a b fun x y => y ≠ 0 ∧ Q (.int (x.fmod y)) μ
  | .pow => intsM a b fun x y => x = 10 ∧ (0 ≤ y ∧ y ≤ 40) ∧ Q (.int (x ^ y.toNat)) μ
noncomputable def eqD (μ : MH) (a b : MV) : Option Bool := match deep μ 9 a, deep μ 9 b with
  | some x, some y => some (PyData.eqv x y)
  | _, _ => none
noncomputable def eqDicts {K : Type} [DecidableEq K] (μ : MH) (x y : List (K × MV)) : Option Bool :=
  if x.length = y.length then (x.mapM fun (kv : K × MV) => match lookI y kv.1 with | some v => eqD μ kv.2 v | none => some false).map fun (l : List Bool) => l.all id
  else some false
noncomputable def eqM (μ : MH) (a b : MV) : Option Bool := match a, b with
  | .ref p, .ref q => match μ p, μ q with
    | some (.idict x), some (.idict y) => eqDicts μ x y
    | _, _ => eqD μ a b
  | a, b => eqD μ a b
noncomputable def anyT (x y : Option PyData) : Option Bool := match x with
  | some (.tuple xs) => y.map fun d => xs.any fun y => PyData.eqv y d
  | _ => none
noncomputable def anyL (x y : Option PyData) : Option Bool := match x with
  | some (.list xs) => y.map fun d => xs.any fun y => PyData.eqv y d
  | _ => none
noncomputable def strIn (a : MV) (y : Str) : Option Bool := match a with
  | .str x => if x.length = 1 then some (y.cps.toList.contains (x.cps.toList.headD 0)) else none
  | _ => none
noncomputable def inO (μ : MH) (p : Addr) (a : MV) (o : Option MO) : Option Bool := match o with
  | some (.idict l) => (match a with | .int k => some ((lookI l k).isSome) | _ => none)
  | some (.odict _ _) => none
  | some (.list _) => anyL (deep μ 9 (.ref p)) (deep μ 9 a)
  | none => none
noncomputable def inM (μ : MH) (a b : MV) : Option Bool := match b with
  | .tup l => anyT (deep μ 9 (.tup l)) (deep μ 9 a)
  | .ref p => inO μ p a (μ p)
  | .str y => strIn a y
  | _ => none
noncomputable def intsO (a b : MV) (f : Int → Int → Bool) : Option Bool := match a with
  | .int x => (match b with | .int y => some (f x y) | _ => none)
  | _ => none
noncomputable def isNoneO (a b : MV) : Option Bool := match b with
  | .none => (match a with
    | .none => some true
    | .keys _ | .vals _ => none
    | _ => some false)
  | _ => none
noncomputable def cmpM (op : COp) (μ : MH) (a b : MV) : Option Bool := match op with
  | .eq => eqM μ a b
  | .ne => (eqM μ a b).map (!·)
  | .isin => inM μ a b
  | .notin => (inM μ a b).map (!·)
  | .lt => intsO a b fun x y => decide (x < y)
  | .le => intsO a b fun x y => decide (x ≤ y)
  | .gt => intsO a b fun x y => decide (x > y)
  | .ge => intsO a b fun x y => decide (x ≥ y)
  | .is => isNoneO a b
  | .isnot => (isNoneO a b).map (!·)
noncomputable def atI {α : Type} (l : List α) (k : Int) : Option α :=
  if 0 ≤ k then l[k.toNat]? else if 0 ≤ k + l.length then l[(k + l.length).toNat]? else none
noncomputable def intO (v : MV) (f : Int → Option MV) : Option MV := match v with
  | .int k => f k
  | _ => none
noncomputable def strO (v : MV) (f : Str → Option MV) : Option MV := match v with
  | .str k => f k
  | _ => none
noncomputable def idxO (o : Option MO) (i : MV) : Option MV := match o with
  | some (.list l) => intO i fun k => if l.length ≤ 2 ^ 20 then atI l k else none
  | some (.idict l) => intO i fun k => lookI l k
  | some (.odict l _) => intO i fun k => lookI l k
  | none => none
noncomputable def idxM (μ : MH) (a i : MV) : Option MV := match a with
  | .tup l => intO i fun k => if l.length ≤ 2 ^ 20 then atI l k else none
  | .str s => intO i fun k => if s.length ≤ 2 ^ 20 then (atI s.cps.toList k).map fun c => .str ⟨#[c]⟩ else none
  | .ref p => idxO (μ p) i
  | _ => none
noncomputable def pickN (n : Nat) (lo hi st : Option Int) : List Nat := sliceRange (sliceBounds lo hi st n).1 (sliceBounds lo hi st n).2.1 (sliceBounds lo hi st n).2.2
noncomputable def pick {α : Type} (l : List α) (lo hi st : Option Int) : List α := (pickN l.length lo hi st).filterMap (l[·]?)
noncomputable def partI : MV → Option (Option Int)
  | .none => some none
  | .int i => some (some i)
  | _ => none
noncomputable def sliceM (fz : List Addr) (a lo hi st : MV) (Q : MQ) (μ : MH) : Prop := ∃ l h s, partI lo = some l ∧ partI hi = some h ∧ partI st = some s ∧ s ≠ some 0 ∧ match a with
  | .tup x => s = none ∧ fits x.length ∧ Q (.tup (pick x l h s)) μ
  | .str x => fits x.length ∧ Q (.str ⟨(pick x.cps.toList l h s).toArray⟩) μ
  | .ref p => ∃ x, lst μ p = some x ∧ fits x.length ∧ allocM fz μ (.list (pick x l h s)) fun c μ' => Q (.ref c) μ'
  | _ => False
noncomputable def isTyO (t : TY) (o : Option MO) : Option Bool := match o with
  | some (.list _) => some (t = .list)
  | some (.idict _) => some (t = .dict)
  | some (.odict _ _) => some (t = .dict)
  | none => none
noncomputable def isTy (μ : MH) (t : TY) : MV → Option Bool
  | .none => some false
  | .bool _ => some (t = .bool || t = .int)
  | .int _ => some (t = .int)
  | .str _ => some (t = .str)
  | .tup _ => some (t = .tuple)
  | .ref a => isTyO t (μ a)
  | _ => none
noncomputable def isStrV : MV → Bool
  | .str _ => true
  | _ => false
noncomputable def intsOf (l : List MV) : Option (List Int) := l.mapM fun | .int i => some i | _ => none
noncomputable def strsOf (l : List MV) : Option (List Str) := l.mapM fun | .str i => some i | _ => none
noncomputable def boolsOf (l : List MV) : Option (List Bool) := l.mapM fun | .bool i => some i | _ => none
noncomputable def sortI (l : List Int) : List Int := l.mergeSort (fun a b => decide (a ≤ b))
noncomputable def maxI : List Int → Option Int
  | [] => none
  | x :: r => some (r.foldl max x)
noncomputable def pairsI (l : List MV) : Option (List (Int × MV)) := l.mapM fun | .tup [.int k, v] => some (k, v) | _ => none
noncomputable def lenO (o : Option MO) (P : Nat → Prop) : Prop := match o with
  | some (.list l) => fits l.length ∧ P l.length
  | some (.idict l) => fits l.length ∧ P l.length
  | some (.odict l _) => fits (l.length + 1) ∧ P (l.length + 1)
  | none => False
noncomputable def lenM (v : MV) (Q : MQ) (μ : MH) : Prop := match v with
  | .tup l => fits l.length ∧ Q (.int l.length) μ
  | .str s => fits s.length ∧ Q (.int s.length) μ
  | .ref a => lenO (μ a) fun n => Q (.int n) μ
  | _ => False
noncomputable def a1 (args : List MV) (P : MV → Prop) : Prop := match args with
  | [v] => P v
  | _ => False
noncomputable def a2 (args : List MV) (P : MV → MV → Prop) : Prop := match args with
  | [v, u] => P v u
  | _ => False
noncomputable def intV (v : MV) (P : Int → Prop) : Prop := match v with
  | .int i => P i
  | _ => False
noncomputable def boolV (v : MV) (P : Bool → Prop) : Prop := match v with
  | .bool i => P i
  | _ => False
noncomputable def refV (v : MV) (P : Addr → Prop) : Prop := match v with
  | .ref i => P i
  | _ => False
noncomputable def dictO (fz : List Addr) (o : Option MO) (Q : MQ) (μ : MH) : Prop := match o with
  | some (.idict l) => fits l.length ∧ allocM fz μ (.idict l) fun c μ' => Q (.ref c) μ'
  | some (.list l) => ∃ ps, pairsI l = some ps ∧ fits l.length ∧ allocM fz μ (.idict (ps.foldl (fun d kv => putI d kv.1 kv.2) [])) fun c μ' => Q (.ref c) μ'
  | _ => False
noncomputable def biM (fz : List Addr) (f : BI) (args : List MV) (Q : MQ) (μ : MH) : Prop := match f with
  | .len => a1 args fun v => lenM v Q μ
  | .min2 => a2 args fun a b => intsM a b fun x y => Q (.int (min x y)) μ
  | .max2 => a2 args fun a b => intsM a b fun x y => Q (.int (max x y)) μ
  | .maxD => a2 args fun v d => intV d fun d => ∃ l ns, isStrV v = false ∧ items μ v = some l ∧ intsOf l = some ns ∧ fits l.length ∧ Q (.int ((maxI ns).getD d)) μ
  | .max1 => False
  | .sorted => a1 args fun v => ∃ l ns, isStrV v = false ∧ items μ v = some l ∧ intsOf l = some ns ∧ l.length < 64 ∧ allocM fz μ (.list ((sortI ns).map .int)) fun c μ' => Q (.ref c) μ'
  | .sortedR => a1 args fun v => ∃ l ns, isStrV v = false ∧ items μ v = some l ∧ intsOf l = some ns ∧ l.length < 64 ∧ allocM fz μ (.list ((sortI ns).reverse.map .int)) fun c μ' => Q (.ref c) μ'
  | .list => a1 args fun v => ∃ l, isStrV v = false ∧ items μ v = some l ∧ fits l.length ∧ allocM fz μ (.list l) fun c μ' => Q (.ref c) μ'
  | .dict => a1 args fun v => refV v fun a => dictO fz (μ a) Q μ
  | .int => a1 args fun v => boolV v fun b => Q (.int (if b then 1 else 0)) μ
  | .all => a1 args fun v => refV v fun a => ∃ l bs, lst μ a = some l ∧ boolsOf l = some bs ∧ fits l.length ∧ Q (.bool (bs.all id)) μ
  | .str => False
  | .sortedSet => False
noncomputable def isDictO (o : Option MO) : Bool := match o with
  | some (.idict _) => true
  | _ => false
noncomputable def isListO (o : Option MO) : Bool := match o with
  | some (.list _) => true
  | _ => false
noncomputable def refB (v : MV) (P : Addr → Bool) : Bool := match v with
  | .ref i => P i
  | _ => false
noncomputable def mmKind (m : MM) (μ : MH) (v : MV) : Bool := match m with
  | .append => refB v fun a => isListO (μ a)
  | .pop2 => refB v fun a => isDictO (μ a)
  | .join => isStrV v
  | _ => false
noncomputable def strV (v : MV) (P : Str → Prop) : Prop := match v with
  | .str i => P i
  | _ => False
noncomputable def get2M (o : Option MO) (k d : MV) (P : MV → Prop) : Prop := match o with
  | some (.idict l) => intV k fun x => P ((lookI l x).getD d)
  | _ => False
noncomputable def a0 (args : List MV) (P : Prop) : Prop := match args with
  | [] => P
  | _ => False
noncomputable def methM (fz : List Addr) (m : MM) (o : MV) (args : List MV) (Q : MQ) (μ : MH) : Prop := match m with
  | .append => refV o fun a => a1 args fun v => ∃ l, μ a = some (.list l) ∧ a ∉ fz ∧ fits l.length ∧ Q .none (upd μ a (.list (l ++ [v])))
  | .pop2 => refV o fun a => a2 args fun k d => intV k fun k => ∃ l, μ a = some (.idict l) ∧ a ∉ fz ∧ fits l.length ∧ Q ((lookI l k).getD d) (upd μ a (.idict (delI l k)))
  | .join => strV o fun x => a1 args fun v => refV v fun a => ∃ l ss, lst μ a = some l ∧ strsOf l = some ss ∧ x.length ≤ 16 ∧ (ss.map (·.length)).sum + ss.length ≤ 2 ^ 20 ∧ Q (.str (Txt.join x ss)) μ
  | _ => False
inductive Src where
  | val (v : MV)
  | ints (l : List Int)
  | rev (v : MV)
  | zip (a b : MV)
noncomputable def Src.items (μ : MH) : Src → Option (List MV)
  | .val v => Mine.items μ v
  | .ints l => some (l.map .int)
  | .rev (.ref a) => (lst μ a).map List.reverse
  | .rev _ => none
  | .zip _ _ => none
noncomputable def rangeL (lo hi st : Int) : List Int := (List.range ((hi - lo + st - 1) / st).toNat).map fun (k : Nat) => lo + st * k
noncomputable def in62 (i : Int) : Bool := decide (-(2 ^ 62) ≤ i) && decide (i < 2 ^ 62)
noncomputable def rangeM (args : List MV) : Option (List Int) := match args with
  | [.int h] => if in62 h then some (rangeL 0 h 1) else none
  | _ => none
noncomputable def isVals : MV → Bool
  | .vals _ => true
  | _ => false
noncomputable def mkSrc (k : SK) (vs : List MV) : Option Src := match k, vs with
  | .plain, [v] => if isVals v then none else some (.val v)
  | .range, vs => (rangeM vs).map .ints
  | .rev, [v] => some (.rev v)
  | _, _ => none
noncomputable def setAt {α : Type} (l : List α) (k : Int) (v : α) : Option (List α) :=
  if 0 ≤ k then (if k.toNat < l.length then some (l.set k.toNat v) else none)
  else if 0 ≤ k + l.length then some (l.set (k + l.length).toNat v) else none
noncomputable def oddOk (l : List (Int × MV)) : MV → Bool
  | .none => true
  | .bool b => b && !(l.any fun kv => decide (kv.1 = 1))
  | .str _ => true
  | .tup [.int i] => decide (i = 1)
  | _ => false
noncomputable def setI (l : List (Int × MV)) (i v : MV) (P : MO → Prop) : Prop := match i with
  | .int k => fits l.length ∧ P (.idict (putI l k v))
  | i => (oddOk l i = true ∧ ∀ kv ∈ l, 0 ≤ kv.1 ∧ kv.1 ≤ 10000) ∧ fits l.length ∧ P (.odict l i)
noncomputable def setO (o : Option MO) (i v : MV) (P : MO → Prop) : Prop := match o with
  | some (.list l) => intV i fun k => fits l.length ∧ ∃ l', setAt l k v = some l' ∧ P (.list l')
  | some (.idict l) => setI l i v P
  | some (.odict _ _) => False
  | none => False
noncomputable def setM (fz : List Addr) (o i v : MV) (Q : MH → Prop) (μ : MH) : Prop := refV o fun a => a ∉ fz ∧ setO (μ a) i v fun o' => Q (upd μ a o')
noncomputable def bindT (t : MT) (v : MV) (vars : MVars) : Option MVars := match t, v with
  | .one i, v => some (setv vars i v)
  | .tup is, .tup l => if is.length = l.length then some ((is.zip l).foldl (fun vs p => setv vs p.1 p.2) vars) else none
  | .tup _, _ => none
noncomputable def Src.held : Src → List Addr
  | .val (.ref a) | .val (.keys a) | .val (.vals a) | .rev (.ref a) => [a]
  | _ => []
noncomputable def loopM (t : MT) (B : MVars → (MFlow → MVars → MH → Prop) → MH → Prop) (R : MFlow → MVars → MH → Prop) : List MV → MVars → MH → Prop
  | [], vars, μ => R .next vars μ
  | v :: rest, vars, μ => ∃ vars', bindT t v vars = some vars' ∧
      B vars' (fun fl vars'' μ' => match fl with
        | .next | .cont => loopM t B R rest vars'' μ'
        | .brk => R .next vars'' μ'
        | .ret v => R (.ret v) vars'' μ') μ
noncomputable def compM (fz : List Addr) (t : MT) (vars : MVars) (T : MVars → (Bool → MH → Prop) → MH → Prop) (B : MVars → MQ → MH → Prop) (Q : MQ) : List MV → List MV → MH → Prop
  | [], acc, μ => allocM fz μ (.list acc) fun c μ' => Q (.ref c) μ'
  | v :: rest, acc, μ => ∃ vars', bindT t v vars = some vars' ∧
      T vars' (fun ok μ' => if ok then B vars' (fun r μ'' => compM fz t vars T B Q rest (acc ++ [r]) μ'') μ' else compM fz t vars T B Q rest acc μ') μ
noncomputable def whileM (C : MVars → (Bool → MH → Prop) → MH → Prop) (B : MVars → (MFlow → MVars → MH → Prop) → MH → Prop) (R : MFlow → MVars → MH → Prop) : Nat → MVars → MH → Prop
  | 0, _, _ => False
  | n + 1, vars, μ => C vars (fun b μ' => if b then B vars (fun fl vars'' μ'' => match fl with
        | .next | .cont => whileM C B R n vars'' μ''
        | .brk => R .next vars'' μ''
        | .ret v => R (.ret v) vars'' μ'') μ'
      else R .next vars μ') μ
section
variable (G : String → Option MV) (Φ : CallSpec) (X : MX)
mutual
noncomputable def ev : ME → List Addr → MVars → MQ → MH → Prop
  | .var i, _, vars, Q, μ => ∃ v, vars i = some v ∧ Q v μ
  | .glob g, _, _, Q, μ => ∃ v, G g = some v ∧ Q v μ
  | .cint i, _, _, Q, μ => Q (.int i) μ
  | .cstr s, _, _, Q, μ => Q (.str (Str.ofString s)) μ
  | .cbool b, _, _, Q, μ => Q (.bool b) μ
  | .cnone, _, _, Q, μ => Q .none μ
  | .bin op a b, fz, vars, Q, μ => ev a fz vars (fun x μ' => ev b fz vars (fun y μ'' => binM fz op x y Q μ'') μ') μ
  | .neg a, fz, vars, Q, μ => ev a fz vars (fun x μ' => ∃ i, x = .int i ∧ Q (.int (-i)) μ') μ
  | .not a, fz, vars, Q, μ => ev a fz vars (fun x μ' => ∃ b, truthy μ' x = some b ∧ Q (.bool (!b)) μ') μ
  | .and l, fz, vars, Q, μ => evAnd l fz vars Q μ
  | .or l, fz, vars, Q, μ => evOr l fz vars Q μ
  | .cmp a ops es, fz, vars, Q, μ => ev a fz vars (fun x μ' => evCmp es ops x fz vars Q μ') μ
  | .ite c a b, fz, vars, Q, μ => ev c fz vars (fun x μ' => ∃ t, truthy μ' x = some t ∧ if t then ev a fz vars Q μ' else ev b fz vars Q μ') μ
  | .idx a i, fz, vars, Q, μ => ev a fz vars (fun x μ' => ev i fz vars (fun y μ'' => ∃ v, idxM μ'' x y = some v ∧ Q v μ'') μ') μ
  | .slice a lo hi st, fz, vars, Q, μ => ev a fz vars (fun x μ' => ev lo fz vars (fun l μ₁ => ev hi fz vars (fun h μ₂ => ev st fz vars (fun s μ₃ => sliceM fz x l h s Q μ₃) μ₂) μ₁) μ') μ
  | .list l, fz, vars, Q, μ => evs l fz vars (fun vs μ' => fits vs.length ∧ allocM fz μ' (.list vs) fun c μ'' => Q (.ref c) μ'') μ
  | .tuple l, fz, vars, Q, μ => evs l fz vars (fun vs μ' => fits vs.length ∧ Q (.tup vs) μ') μ
  | .dict0 s, fz, _, Q, μ => allocM fz μ (.idict []) fun c μ' => Q (.ref c) μ'
  | .dict _ _, _, _, _, _ => False
  | .call f args, fz, vars, Q, μ => evs args fz vars (fun vs μ' => Φ f vs fz Q X μ') μ
  | .bi f args, fz, vars, Q, μ => evs args fz vars (fun vs μ' => biM fz f vs Q μ') μ
  | .isinst e t, fz, vars, Q, μ => ev e fz vars (fun v μ' => ∃ b, isTy μ' t v = some b ∧ Q (.bool b) μ') μ
  | .meth m o args, fz, vars, Q, μ => ev o fz vars (fun x μ' => mmKind m μ' x = true ∧ evs args fz vars (fun vs μ'' => methM fz m x vs Q μ'') μ') μ
  | .comp elt t k its ifs, fz, vars, Q, μ => evs its fz vars (fun vs μ' => ∃ src all, mkSrc k vs = some src ∧ src.items μ' = some all ∧ fits all.length ∧
      compM fz t vars (fun vs F μ => evIfs ifs (src.held ++ fz) vs F μ) (fun vs F μ => ev elt (src.held ++ fz) vs F μ) Q all [] μ') μ
noncomputable def evs : List ME → List Addr → MVars → (List MV → MH → Prop) → MH → Prop
  | [], _, _, Q, μ => Q [] μ
  | e :: r, fz, vars, Q, μ => ev e fz vars (fun v μ' => evs r fz vars (fun vs μ'' => Q (v :: vs) μ'') μ') μ
noncomputable def evAnd : List ME → List Addr → MVars → MQ → MH → Prop
  | [], _, _, _, _ => False
  | e :: r, fz, vars, Q, μ => ev e fz vars (fun v μ' => match r with
      | [] => Q v μ'
      | _ :: _ => ∃ b, truthy μ' v = some b ∧ if b then evAnd r fz vars Q μ' else Q v μ') μ
noncomputable def evOr : List ME → List Addr → MVars → MQ → MH → Prop
  | [], _, _, _, _ => False
  | e :: r, fz, vars, Q, μ => ev e fz vars (fun v μ' => match r with
      | [] => Q v μ'
      | _ :: _ => ∃ b, truthy μ' v = some b ∧ if b then Q v μ' else evOr r fz vars Q μ') μ
noncomputable def evCmp : List ME → List COp → MV → List Addr → MVars → MQ → MH → Prop
  | e :: r, op :: ops, x, fz, vars, Q, μ => ev e fz vars (fun y μ' => ∃ b, cmpM op μ' x y = some b ∧ match r, ops with
      | [], [] => Q (.bool b) μ'
      | _ :: _, _ :: _ => if b then evCmp r ops y fz vars Q μ' else Q (.bool false) μ'
      | _, _ => False) μ
  | _, _, _, _, _, _, _ => False
noncomputable def evIfs : List ME → List Addr → MVars → (Bool → MH → Prop) → MH → Prop
  | [], _, _, F, μ => F true μ
  | e :: r, fz, vars, F, μ => ev e fz vars (fun v μ' => ∃ b, truthy μ' v = some b ∧ match r with
      | [] => F b μ'
      | _ :: _ => if b then evIfs r fz vars F μ' else F false μ') μ
end
mutual
noncomputable def ex : MS → List Addr → MVars → (MFlow → MVars → MH → Prop) → MH → Prop
  | .assign i e, fz, vars, R, μ => ev G Φ X e fz vars (fun v μ' => R .next (setv vars i v) μ') μ
  | .unpack l e, fz, vars, R, μ => ev G Φ X e fz vars (fun v μ' => ∃ vars', bindT (.tup l) v vars = some vars' ∧ R .next vars' μ') μ
  | .setidx o i e, fz, vars, R, μ => ev G Φ X e fz vars (fun v μ₁ => ev G Φ X o fz vars (fun x μ₂ => ev G Φ X i fz vars (fun y μ₃ => setM fz x y v (fun μ₄ => R .next vars μ₄) μ₃) μ₂) μ₁) μ
  | .expr e, fz, vars, R, μ => ev G Φ X e fz vars (fun _ μ' => R .next vars μ') μ
  | .ret e, fz, vars, R, μ => ev G Φ X e fz vars (fun v μ' => R (.ret v) vars μ') μ
  | .ret0, _, vars, R, μ => R (.ret .none) vars μ
  | .ite c a b, fz, vars, R, μ => ev G Φ X c fz vars (fun v μ' => ∃ t, truthy μ' v = some t ∧ if t then exs a fz vars R μ' else exs b fz vars R μ') μ
  | .for t k its body, fz, vars, R, μ => evs G Φ X its fz vars (fun vs μ' => ∃ src all, mkSrc k vs = some src ∧ src.items μ' = some all ∧ fits all.length ∧
      loopM t (fun vs F μ => exs body (src.held ++ fz) vs F μ) R all vars μ') μ
  | .while c body, fz, vars, R, μ => ∃ n, whileM (fun vs F μ => ev G Φ X c fz vs (fun v μ' => ∃ t, truthy μ' v = some t ∧ F t μ') μ) (fun vs F μ => exs body fz vs F μ) R n vars μ
  | .pass, _, vars, R, μ => R .next vars μ
  | .raise0, _, _, _, _ => False
  | .tri b, fz, vars, R, μ => exs b fz vars R μ
  | .opq _, _, _, _, _ => False
noncomputable def exs : List MS → List Addr → MVars → (MFlow → MVars → MH → Prop) → MH → Prop
  | [], _, vars, R, μ => R .next vars μ
  | st :: r, fz, vars, R, μ => ex st fz vars (fun fl vars' μ' => match fl with
      | .next => exs r fz vars' R μ'
      | fl => R fl vars' μ') μ
end
end
noncomputable def args0 (vs : List MV) : MVars := fun i => vs[i]?
noncomputable def calls (G : String → Option MV) (Γ : String → Option MFun) : Nat → CallSpec
  | 0, _, _, _, _, _, _ => False
  | d + 1, f, vs, fz, Q, X, μ => ∃ fd, Γ f = some fd ∧ vs.length = fd.n ∧
      exs G (calls G Γ d) X fd.body fz (args0 vs) (fun fl _ μ' => match fl with
        | .ret v => Q v μ'
        | .next => Q .none μ'
        | _ => False) μ
theorem Z9 {a b : MV} {P : Int → Int → Prop} (h : intsM a b P) : ∃ x y, a = .int x ∧ b = .int y ∧ P x y := by
  cases a <;> first
    | exact False.elim h
    | (cases b <;> first | exact False.elim h | exact ⟨_, _, rfl, rfl, h⟩)
theorem Ky {a b : MV} {f : Int → Int → Bool} {r : Bool} (h : intsO a b f = some r) : ∃ x y, a = .int x ∧ b = .int y ∧ f x y = r := by
  cases a <;> first
    | (cases h; done)
    | (cases b <;> first | (cases h; done) | exact ⟨_, _, rfl, rfl, Option.some.inj h⟩)
theorem Jj {v : MV} {P : Addr → Prop} (h : refV v P) : ∃ i, v = .ref i ∧ P i := by
  cases v <;> first | exact False.elim h | exact ⟨_, rfl, h⟩
theorem refB_inv {v : MV} {P : Addr → Bool} (h : refB v P = true) : ∃ i, v = .ref i ∧ P i = true := by
  cases v <;> first | exact (Bool.false_ne_true h).elim | exact ⟨_, rfl, h⟩
theorem intV_inv {v : MV} {P : Int → Prop} (h : intV v P) : ∃ i, v = .int i ∧ P i := by
  cases v <;> first | exact False.elim h | exact ⟨_, rfl, h⟩
theorem boolV_inv {v : MV} {P : Bool → Prop} (h : boolV v P) : ∃ i, v = .bool i ∧ P i := by
  cases v <;> first | exact False.elim h | exact ⟨_, rfl, h⟩
theorem strV_inv {v : MV} {P : Str → Prop} (h : strV v P) : ∃ i, v = .str i ∧ P i := by
  cases v <;> first | exact False.elim h | exact ⟨_, rfl, h⟩
theorem isStrV_inv {v : MV} (h : isStrV v = true) : ∃ i, v = .str i := by
  cases v <;> first | exact (Bool.false_ne_true h).elim | exact ⟨_, rfl⟩
theorem a0_inv {args : List MV} {P : Prop} (h : a0 args P) : args = [] ∧ P := by
  cases args <;> first | exact False.elim h | exact ⟨rfl, h⟩
theorem K9 {args : List MV} {P : MV → Prop} (h : a1 args P) : ∃ v, args = [v] ∧ P v := by
  cases args with
  | nil => exact False.elim h
  | cons v r => cases r with
    | nil => exact ⟨v, rfl, h⟩
    | cons _ _ => exact False.elim h
theorem a2_inv {args : List MV} {P : MV → MV → Prop} (h : a2 args P) : ∃ v u, args = [v, u] ∧ P v u := by
  cases args with
  | nil => exact False.elim h
  | cons v r => cases r with
    | nil => exact False.elim h
    | cons u r => cases r with
      | nil => exact ⟨v, u, rfl, h⟩
      | cons _ _ => exact False.elim h
theorem isDictO_inv {o : Option MO} (h : isDictO o = true) : ∃ l, o = some (.idict l) := by
  cases o with
  | none => exact (Bool.false_ne_true h).elim
  | some o => cases o with
    | idict l => exact ⟨l, rfl⟩
    | _ => exact (Bool.false_ne_true h).elim
theorem isListO_inv {o : Option MO} (h : isListO o = true) : ∃ l, o = some (.list l) := by
  cases o with
  | none => exact (Bool.false_ne_true h).elim
  | some o => cases o with
    | list l => exact ⟨l, rfl⟩
    | _ => exact (Bool.false_ne_true h).elim
theorem anyT_inv {x y : Option PyData} {r : Bool} (h : anyT x y = some r) : ∃ xs d, x = some (.tuple xs) ∧ y = some d ∧ (xs.any fun y => PyData.eqv y d) = r := by
  cases x with
  | none => cases h
  | some x =>
    cases x with
    | tuple xs => obtain ⟨d, e, q⟩ := Option.map_eq_some_iff.mp h; exact ⟨xs, d, rfl, e, q⟩
    | _ => cases h
theorem anyL_inv {x y : Option PyData} {r : Bool} (h : anyL x y = some r) : ∃ xs d, x = some (.list xs) ∧ y = some d ∧ (xs.any fun y => PyData.eqv y d) = r := by
  cases x with
  | none => cases h
  | some x =>
    cases x with
    | list xs => obtain ⟨d, e, q⟩ := Option.map_eq_some_iff.mp h; exact ⟨xs, d, rfl, e, q⟩
    | _ => cases h
theorem Kj {v r : MV} {f : Int → Option MV} (h : intO v f = some r) : ∃ k, v = .int k ∧ f k = some r := by
  cases v <;> first | (cases h; done) | exact ⟨_, rfl, h⟩
theorem strO_inv {v r : MV} {f : Str → Option MV} (h : strO v f = some r) : ∃ k, v = .str k ∧ f k = some r := by
  cases v <;> first | (cases h; done) | exact ⟨_, rfl, h⟩
theorem Uy {p : Prop} [Decidable p] {α : Type} {x : Option α} {y : α} (h : (if p then x else none) = some y) : p ∧ x = some y := by
  by_cases q : p
  · rw [if_pos q] at h; exact ⟨q, h⟩
  · rw [if_neg q] at h; cases h
end Mine
end
section
namespace Mine
open PySem PySem.Calls
noncomputable def KeysView (h : Heap) (v d : Addr) : Prop := ∃ o, h.get? v = some o ∧ o.cls = .type "dict_keys" ∧ o.data = .fields #[.ref d]
mutual
noncomputable def RepV (h : Heap) : MV → Value → Prop
  | .none, v => v = .none
  | .bool b, v => v = .bool b
  | .int i, v => ∃ t, v = .int i t
  | .str x, v => ∃ t, v = .str x t
  | .tup l, v => ∃ a vs n, v = .ref a ∧ h.get? a = some { cls := .type "tuple", data := .seq (List.toArray vs) n } ∧ RepVs h l vs
  | .ref a, v => v = .ref a
  | .keys d, v => ∃ a, v = .ref a ∧ KeysView h a d
  | .vals d, v => ∃ a, v = .ref a ∧ h.IsValuesView a d
noncomputable def RepVs (h : Heap) : List MV → List Value → Prop
  | [], [] => True
  | m :: ms, v :: vs => RepV h m v ∧ RepVs h ms vs
  | [], _ :: _ => False
  | _ :: _, [] => False
end
noncomputable def RepKV {K : Type} (h : Heap) : List (K × MV) → List (K × Value) → Prop
  | [], [] => True
  | m :: ms, v :: vs => m.1 = v.1 ∧ RepV h m.2 v.2 ∧ RepKV h ms vs
  | [], _ :: _ => False
  | _ :: _, [] => False
noncomputable def RepO (prog : Program) (w : World) (h : Heap) (a : Addr) : MO → Prop
  | .list l => ∃ vs : List Value, h.PlainList a vs.toArray ∧ RepVs h l vs
  | .idict l => ∃ kvs, h.DictOf (intKind prog w) a kvs ∧ RepKV h l kvs ∧ (a == sysModules) = false
  | .odict l k => ∃ o es e ep kvs, RawD h a (Array.push es e) ep o ∧ Pairs (intKind prog w) es.toList kvs ∧ RepKV h l kvs ∧ RepV h k e.key ∧ (a == sysModules) = false ∧ Finds prog w a o kvs
noncomputable def RepH (prog : Program) (w : World) (μ : MH) (h : Heap) : Prop := ∀ a o, μ a = some o → RepO prog w h a o
noncomputable def ImmCls (o : Obj) : Prop := (o.cls = .type "tuple" ∧ ∃ xs n, o.data = .seq xs n) ∨ (o.cls = .type "dict_keys" ∧ ∃ vs, o.data = .fields vs) ∨ (o.cls = .type "dict_values" ∧ ∃ vs, o.data = .fields vs)
noncomputable def KeepsT (h h' : Heap) : Prop := ∀ b o, h.get? b = some o → ImmCls o → h'.get? b = some o
theorem KeepsT.of_all {h h' : Heap} (k : ∀ b o, h.get? b = some o → h'.get? b = some o) : KeepsT h h' := fun b o e _ => k b o e
mutual
theorem RepV.keepT {h h' : Heap} (k : KeepsT h h') : ∀ {m : MV} {v : Value}, RepV h m v → RepV h' m v
  | .none, _ => fun x => by simpa [RepV] using x
  | .bool _, _ => fun x => by simpa [RepV] using x
  | .int _, _ => fun x => by simpa [RepV] using x
  | .str _, _ => fun x => by simpa [RepV] using x
  | .tup l, _ => fun x => by
    simp only [RepV] at x ⊢
    obtain ⟨a, vs, n, e, ho, hv⟩ := x
    exact ⟨a, vs, n, e, k a _ ho (.inl ⟨rfl, _, _, rfl⟩), RepVs.keepT k hv⟩
  | .ref _, _ => fun x => by simpa [RepV] using x
  | .keys d, _ => fun x => by
    simp only [RepV] at x ⊢
    obtain ⟨a, e, o, ho, hc, r⟩ := x
    exact ⟨a, e, o, k a o ho (.inr (.inl ⟨hc, _, r⟩)), hc, r⟩
  | .vals d, _ => fun x => by
    simp only [RepV] at x ⊢
    obtain ⟨a, e, o, ho, hc, r⟩ := x
    exact ⟨a, e, o, k a o ho (.inr (.inr ⟨hc, _, r⟩)), hc, r⟩
theorem RepVs.keepT {h h' : Heap} (k : KeepsT h h') : ∀ {m : List MV} {v : List Value}, RepVs h m v → RepVs h' m v
  | [], [] => fun _ => trivial
  | _ :: _, _ :: _ => fun x => by simp only [RepVs] at x ⊢; exact ⟨RepV.keepT k x.1, RepVs.keepT k x.2⟩
  | [], _ :: _ => fun x => by simp [RepVs] at x
  | _ :: _, [] => fun x => by simp [RepVs] at x
end
theorem RepKV.keepT {K : Type} {h h' : Heap} (k : KeepsT h h') : ∀ {m : List (K × MV)} {v : List (K × Value)}, RepKV h m v → RepKV h' m v
  | [], [] => fun _ => trivial
  | _ :: _, _ :: _ => fun x => by simp only [RepKV] at x ⊢; exact ⟨x.1, RepV.keepT k x.2.1, RepKV.keepT k x.2.2⟩
  | [], _ :: _ => fun x => by simp [RepKV] at x
  | _ :: _, [] => fun x => by simp [RepKV] at x
theorem RepVs.length {h : Heap} : ∀ {m : List MV} {v : List Value}, RepVs h m v → v.length = m.length
  | [], [] => fun _ => rfl
  | _ :: _, _ :: _ => fun x => by simp only [RepVs] at x; simp [RepVs.length x.2]
  | [], _ :: _ => fun x => by simp [RepVs] at x
  | _ :: _, [] => fun x => by simp [RepVs] at x
theorem RepKV.length {K : Type} {h : Heap} : ∀ {m : List (K × MV)} {v : List (K × Value)}, RepKV h m v → v.length = m.length
  | [], [] => fun _ => rfl
  | _ :: _, _ :: _ => fun x => by simp only [RepKV] at x; simp [RepKV.length x.2.2]
  | [], _ :: _ => fun x => by simp [RepKV] at x
  | _ :: _, [] => fun x => by simp [RepKV] at x
theorem RepVs.append {h : Heap} : ∀ {m m' : List MV} {v v' : List Value}, RepVs h m v → RepVs h m' v' → RepVs h (m ++ m') (v ++ v')
  | [], _, [], _ => fun _ y => y
  | _ :: _, _, _ :: _, _ => fun x y => by simp only [RepVs, List.cons_append] at x ⊢; exact ⟨x.1, RepVs.append x.2 y⟩
  | [], _, _ :: _, _ => fun x _ => by simp [RepVs] at x
  | _ :: _, _, [], _ => fun x _ => by simp [RepVs] at x
theorem RepVs.get {h : Heap} : ∀ {m : List MV} {v : List Value} {i : Nat} {x : MV}, RepVs h m v → m[i]? = some x → ∃ y, v[i]? = some y ∧ RepV h x y
  | [], [], i, x => fun _ e => by simp at e
  | m :: ms, y :: ys, 0, x => fun r e => by simp only [RepVs] at r; simp at e; subst e; exact ⟨y, rfl, r.1⟩
  | m :: ms, y :: ys, i + 1, x => fun r e => by simp only [RepVs] at r; exact RepVs.get (i := i) r.2 (by simpa using e)
  | [], _ :: _, _, _ => fun r _ => by simp [RepVs] at r
  | _ :: _, [], _, _ => fun r _ => by simp [RepVs] at r
theorem RepO.keeps {prog : Program} {w : World} {h h' : Heap} (k : KeepsT h h') {a : Addr} {o : MO} (ka : ∀ x, h.get? a = some x → h'.get? a = some x) (r : RepO prog w h a o) : RepO prog w h' a o := by
  cases o with
  | list l => obtain ⟨vs, ⟨n, ho⟩, hv⟩ := r; exact ⟨vs, ⟨n, ka _ ho⟩, hv.keepT k⟩
  | idict l => obtain ⟨kvs, ⟨o, es, ep, ho, hr⟩, hv, hs⟩ := r; exact ⟨kvs, ⟨o, es, ep, ka o ho, hr⟩, hv.keepT k, hs⟩
  | odict l x => obtain ⟨o, es, e, ep, kvs, h1, h2, h3, h4, h5⟩ := r; exact ⟨o, es, e, ep, kvs, h1.keeps ka, h2, h3.keepT k, h4.keepT k, h5⟩
theorem RepO.obj {prog : Program} {w : World} {h : Heap} {a : Addr} {o : MO} (r : RepO prog w h a o) : ∃ x, h.get? a = some x ∧ ¬ ImmCls x := by
  cases o with
  | list l => obtain ⟨vs, ⟨n, ho⟩, _⟩ := r; exact ⟨_, ho, by unfold ImmCls; simp⟩
  | idict l => obtain ⟨kvs, ⟨o, es, ep, ho, hc, _⟩, _⟩ := r; exact ⟨o, ho, by unfold ImmCls; rw [hc.1]; simp⟩
  | odict l x => obtain ⟨o, es, e, ep, kvs, h1, _⟩ := r; exact ⟨o, h1.here, by unfold ImmCls; rw [h1.ex.1]; simp⟩
theorem RepH.ext {prog : Program} {w : World} {μ : MH} {h h' : Heap} (r : RepH prog w μ h) (k : ∀ b o, h.get? b = some o → h'.get? b = some o) : RepH prog w μ h' :=
  fun a o e => (r a o e).keeps (.of_all k) (k a)
theorem RepH.alloc {prog : Program} {w : World} {μ : MH} {h h' : Heap} {c : Addr} {o : MO} (r : RepH prog w μ h) (k : ∀ b o, h.get? b = some o → h'.get? b = some o) (ho : RepO prog w h' c o) : RepH prog w (upd μ c o) h' := by
  intro a o' e
  unfold upd at e
  split at e
  · rename_i q; cases e; rw [q]; exact ho
  · exact (r a o' e).keeps (.of_all k) (k a)
theorem KeepsT.but {prog : Program} {w : World} {μ : MH} {h h' : Heap} {c : Addr} {o : MO} (r : RepH prog w μ h) (e : μ c = some o) (k : ∀ b o, b ≠ c → h.get? b = some o → h'.get? b = some o) : KeepsT h h' := fun b x hb hi => by
  refine k b x (fun q => ?_) hb
  obtain ⟨y, hy, hn⟩ := (r c o e).obj
  rw [q, hy] at hb; cases hb; exact hn hi
theorem RepH.update {prog : Program} {w : World} {μ : MH} {h h' : Heap} {c : Addr} {o o' : MO} (r : RepH prog w μ h) (e : μ c = some o) (k : ∀ b o, b ≠ c → h.get? b = some o → h'.get? b = some o)
    (ho : KeepsT h h' → RepO prog w h' c o') : RepH prog w (upd μ c o') h' := by
  have kt := KeepsT.but r e k
  intro a x ex
  unfold upd at ex
  split at ex
  · rename_i q; cases ex; rw [q]; exact ho kt
  · rename_i q; exact (r a x ex).keeps kt fun y hy => k a y q hy
structure Grow (fz : List Addr) (μ : MH) (s : Shared) (μ' : MH) (s' : Shared) : Prop where
  keep : ∀ b o, (μ b = none ∨ b ∈ fz) → s.heap.get? b = some o → s'.heap.get? b = some o ∧ μ' b = μ b
  os : s'.os = s.os
  gens : s'.gens = s.gens
theorem Grow.refl {fz : List Addr} {μ : MH} {s : Shared} : Grow fz μ s μ s := ⟨fun _ _ _ e => ⟨e, rfl⟩, rfl, rfl⟩
theorem Grow.trans {fz : List Addr} {μ μ₁ μ₂ : MH} {s s₁ s₂ : Shared} (x : Grow fz μ s μ₁ s₁) (y : Grow fz μ₁ s₁ μ₂ s₂) : Grow fz μ s μ₂ s₂ :=
  ⟨fun b o f e => by
    obtain ⟨e1, q1⟩ := x.keep b o f e
    obtain ⟨e2, q2⟩ := y.keep b o (f.imp (fun z => q1.trans z) id) e1
    exact ⟨e2, q2.trans q1⟩, y.os.trans x.os, y.gens.trans x.gens⟩
theorem Grow.weak {fz cs : List Addr} {μ μ' : MH} {s s' : Shared} (x : Grow (cs ++ fz) μ s μ' s') : Grow fz μ s μ' s' :=
  ⟨fun b o f e => x.keep b o (f.imp id fun m => List.mem_append_right _ m) e, x.os, x.gens⟩
theorem Grow.keepT {prog : Program} {w : World} {fz : List Addr} {μ μ' : MH} {s s' : Shared} (x : Grow fz μ s μ' s') (r : RepH prog w μ s.heap) : KeepsT s.heap s'.heap := fun b o e hi => by
  refine (x.keep b o ?_ e).1
  cases q : μ b with
  | none => exact .inl rfl
  | some m =>
    obtain ⟨y, hy, hn⟩ := (r b m q).obj
    rw [e] at hy; cases hy; exact absurd hi hn
noncomputable def FzIn (fz : List Addr) (μ : MH) : Prop := ∀ b ∈ fz, μ b ≠ none
theorem FzIn.grow {prog : Program} {w : World} {fz : List Addr} {μ μ' : MH} {s s' : Shared} (f : FzIn fz μ) (r : RepH prog w μ s.heap) (x : Grow fz μ s μ' s') : FzIn fz μ' := fun b hb => by
  cases q : μ b with
  | none => exact absurd q (f b hb)
  | some m =>
    obtain ⟨y, hy, _⟩ := (r b m q).obj
    rw [(x.keep b y (.inr hb) hy).2, q]; intro z; cases z
theorem Grow.ext {fz : List Addr} {μ : MH} {s : Shared} {h' : Heap} {tk : Nat} (k : ∀ b o, s.heap.get? b = some o → h'.get? b = some o) : Grow fz μ s μ { s with heap := h', toks := tk } :=
  ⟨fun b o _ e => ⟨k b o e, rfl⟩, rfl, rfl⟩
theorem Grow.alloc {fz : List Addr} {μ : MH} {s : Shared} {h' : Heap} {tk : Nat} {c : Addr} {o : MO} (k : ∀ b o, s.heap.get? b = some o → h'.get? b = some o) (hc : s.heap.get? c = none) :
    Grow fz μ s (upd μ c o) { s with heap := h', toks := tk } :=
  ⟨fun b x _ e => ⟨k b x e, by unfold upd; rw [if_neg (fun q => by rw [q, hc] at e; cases e)]⟩, rfl, rfl⟩
theorem Grow.update {fz : List Addr} {μ : MH} {s : Shared} {h' : Heap} {tk : Nat} {c : Addr} {o o' : MO} (e : μ c = some o) (hf : c ∉ fz) (k : ∀ b o, b ≠ c → s.heap.get? b = some o → h'.get? b = some o) :
    Grow fz μ s (upd μ c o') { s with heap := h', toks := tk } :=
  ⟨fun b x f hb => by
    have ne : b ≠ c := fun q => by
      subst q
      rcases f with f | f
      · rw [e] at f; cases f
      · exact hf f
    exact ⟨k b x ne hb, by unfold upd; rw [if_neg ne]⟩, rfl, rfl⟩
end Mine
end
section
set_option genSizeOfSpec false
set_option genInjectivity false
namespace Mine
open PySem PySem.Calls
structure Sc where
  tab : List (Nat × Str)
  names : List (Str × NameKind)
  funs : List String
noncomputable def kindVar (k : Option NameKind) : Bool := decide (k = some .local) || decide (k = some .cell) || decide (k = some .free)
noncomputable def kindSt (k : Option NameKind) : Bool := decide (k = some .local) || decide (k = some .cell)
noncomputable def isGlobK (k : Option NameKind) : Bool := decide (k = some .globalImplicit)
noncomputable def notDebug (x : Str) : Bool := !(x == Str.ofString "__debug__") && !(x == Str.ofString "__classdict__")
noncomputable def Sc.isVar (S : Sc) (i : Nat) (x : Str) : Bool := S.tab.lookup i == some x && kindVar (S.names.lookup x) && notDebug x
noncomputable def Sc.isSt (S : Sc) (i : Nat) (x : Str) : Bool := S.tab.lookup i == some x && kindSt (S.names.lookup x)
noncomputable def Sc.isGlob (S : Sc) (g : String) (x : Str) : Bool := x == Str.ofString g && isGlobK (S.names.lookup x) && notDebug x
inductive Tg where | other | name | cint | cstr | cbool | cnone | bin | neg | not | and | or | cmp | ife | sub | slc | list | tup | dict0 | callN | callA | lc
  deriving DecidableEq
structure Nd where
  t : Tg
  a : PySem.Expr
  b : PySem.Expr
  c : PySem.Expr
  l : List PySem.Expr
  os : List CmpOp
  op : Operator
  s : Str
  k : Nat
  i : Int
  bl : Bool
  kw : List Keyword
  sc : Scope
  o1 : Option PySem.Expr
  o2 : Option PySem.Expr
  o3 : Option PySem.Expr
  p : Pos
  p2 : Pos
noncomputable def nd0 (x : PySem.Expr) : Nd := ⟨.other, x, x, x, [], [], .Add, ⟨#[]⟩, 0, 0, false, [], default, none, none, none, default, default⟩
noncomputable def node (x : PySem.Expr) : Nd := match x with
  | .Name s p => { nd0 x with t := .name, s := s, p := p }
  | .Constant (.int i) k p => { nd0 x with t := .cint, i := i, k := k, p := p }
  | .Constant (.str s) k p => { nd0 x with t := .cstr, s := s, k := k, p := p }
  | .Constant (.bool b) k p => { nd0 x with t := .cbool, bl := b, k := k, p := p }
  | .Constant .none k p => { nd0 x with t := .cnone, k := k, p := p }
  | .BinOp l o r p => { nd0 x with t := .bin, a := l, op := o, b := r, p := p }
  | .UnaryOp .USub y p => { nd0 x with t := .neg, a := y, p := p }
  | .UnaryOp .Not y p => { nd0 x with t := .not, a := y, p := p }
  | .BoolOp .And l p => { nd0 x with t := .and, l := l, p := p }
  | .BoolOp .Or l p => { nd0 x with t := .or, l := l, p := p }
  | .Compare l os cs p => { nd0 x with t := .cmp, a := l, os := os, l := cs, p := p }
  | .IfExp t y z p => { nd0 x with t := .ife, a := t, b := y, c := z, p := p }
  | .Subscript v (.Slice l u s sp) p => { nd0 x with t := .slc, a := v, o1 := l, o2 := u, o3 := s, p2 := sp, p := p }
  | .Subscript v s p => { nd0 x with t := .sub, a := v, b := s, p := p }
  | .List es p => { nd0 x with t := .list, l := es, p := p }
  | .Tuple es k p => { nd0 x with t := .tup, l := es, k := k, p := p }
  | .Dict [] [] p => { nd0 x with t := .dict0, p := p }
  | .Call (.Name g np) as kw p => { nd0 x with t := .callN, s := g, p2 := np, l := as, kw := kw, p := p }
  | .Call (.Attribute v nm ap) as kw p => { nd0 x with t := .callA, a := v, s := nm, p2 := ap, l := as, kw := kw, p := p }
  | .ListComp el [⟨tg, iter, ifs, 0⟩] sc p => { nd0 x with t := .lc, a := el, b := tg, c := iter, l := ifs, sc := sc, p := p }
  | _ => nd0 x
noncomputable def buildT (n : Nd) : Tg → PySem.Expr
  | .other => n.a
  | .name => .Name n.s n.p
  | .cint => .Constant (.int n.i) n.k n.p
  | .cstr => .Constant (.str n.s) n.k n.p
  | .cbool => .Constant (.bool n.bl) n.k n.p
  | .cnone => .Constant .none n.k n.p
  | .bin => .BinOp n.a n.op n.b n.p
  | .neg => .UnaryOp .USub n.a n.p
  | .not => .UnaryOp .Not n.a n.p
  | .and => .BoolOp .And n.l n.p
  | .or => .BoolOp .Or n.l n.p
  | .cmp => .Compare n.a n.os n.l n.p
  | .ife => .IfExp n.a n.b n.c n.p
  | .sub => .Subscript n.a n.b n.p
  | .slc => .Subscript n.a (.Slice n.o1 n.o2 n.o3 n.p2) n.p
  | .list => .List n.l n.p
  | .tup => .Tuple n.l n.k n.p
  | .dict0 => .Dict [] [] n.p
  | .callN => .Call (.Name n.s n.p2) n.l n.kw n.p
  | .callA => .Call (.Attribute n.a n.s n.p2) n.l n.kw n.p
  | .lc => .ListComp n.a [⟨n.b, n.c, n.l, 0⟩] n.sc n.p
theorem build_node (x : PySem.Expr) : buildT (node x) (node x).t = x := by
  cases x <;> try rfl
  case Constant c k p => cases c <;> rfl
  case UnaryOp o y p => cases o <;> rfl
  case BoolOp o l p => cases o <;> rfl
  case Subscript v s p => cases s <;> rfl
  case Dict ks vs p =>
    cases ks
    · cases vs <;> rfl
    · rfl
  case Call f as kw p => cases f <;> rfl
  case ListComp el gs sc p =>
    cases gs with
    | nil => rfl
    | cons g gs =>
      obtain ⟨tg, it, ifs, n⟩ := g
      cases n with
      | ofNat m => cases m <;> cases gs <;> rfl
      | negSucc m => cases gs <;> rfl
theorem inv {x : PySem.Expr} {t : Tg} (h : decide ((node x).t = t) = true) : x = buildT (node x) t := by
  have := build_node x
  rw [of_decide_eq_true h] at this
  exact this.symm
noncomputable def opOf : BOp → Operator
  | .add => .Add | .sub => .Sub | .mul => .Mult | .fdiv => .FloorDiv | .mod => .Mod | .pow => .Pow
noncomputable def copOf : COp → CmpOp
  | .eq => .Eq | .ne => .NotEq | .lt => .Lt | .le => .LtE | .gt => .Gt | .ge => .GtE | .isin => .In | .notin => .NotIn | .is => .Is | .isnot => .IsNot
noncomputable def opIs (op : BOp) (o : Operator) : Bool := decide (o = opOf op)
noncomputable def copIs (op : COp) (o : CmpOp) : Bool := decide (o = copOf op)
noncomputable def copsIs : List COp → List CmpOp → Bool
  | [], [] => true
  | a :: r, b :: s => copIs a b && copsIs r s
  | _, _ => false
noncomputable def biName : BI → String
  | .len => "len" | .min2 => "min" | .max2 => "max" | .maxD => "max" | .max1 => "max" | .sorted => "sorted" | .sortedR => "sorted" | .sortedSet => "sorted"
  | .list => "list" | .dict => "dict" | .int => "int" | .str => "str" | .all => "all"
noncomputable def tyName : TY → String
  | .int => "int" | .bool => "bool" | .str => "str" | .tuple => "tuple" | .list => "list" | .dict => "dict"
noncomputable def mmName : MM → String
  | .append => "append" | .extend => "extend" | .keys => "keys" | .values => "values" | .get2 => "get" | .pop2 => "pop" | .clear => "clear" | .update => "update"
  | .count => "count" | .index => "index" | .join => "join" | .split => "split"
noncomputable def isNm (x : PySem.Expr) : Bool := decide ((node x).t = .name)
noncomputable def isTgt (S : Sc) (t : MT) (x : PySem.Expr) : Bool := match t with
  | .one i => isNm x && S.isSt i (node x).s
  | .tup _ => false
noncomputable def tgtNames (x : PySem.Expr) : List Str := if isNm x then [(node x).s] else []
noncomputable def MT.vars : MT → List Nat
  | .one i => [i]
  | .tup l => l
noncomputable def isFree (k : NameKind) : Bool := decide (k = .free)
noncomputable def isCell (k : Option NameKind) : Bool := decide (k = some .cell)
noncomputable def isFreeO (k : Option NameKind) : Bool := decide (k = some .free)
noncomputable def relab (S : Sc) (names : List (Str × NameKind)) : List (Str × NameKind) := names.map fun p => if isFree p.2 && isCell (S.names.lookup p.1) then (p.1, .cell) else p
noncomputable def Sc.inner (S : Sc) (t : MT) (tg : PySem.Expr) (names : List (Str × NameKind)) : Sc :=
  ⟨t.vars.zip (tgtNames tg) ++ S.tab.filter (fun p => isFreeO (names.lookup p.2) && !t.vars.contains p.1), relab S names, S.funs⟩
noncomputable def innerOk (S : Sc) (sc : Scope) : Bool :=
  decide (sc.kind = .function) && decide ((sc.names.map (·.1)).Nodup) && sc.names.all (fun p => decide (p.2 = .local) || decide (p.2 = .globalImplicit) || (decide (p.2 = .free) && (decide (S.names.lookup p.1 = some .cell) || decide (S.names.lookup p.1 = some .free))))
noncomputable def ME.isNone : ME → Bool
  | .cnone => true
  | _ => false
noncomputable def callsG (S : Sc) (g : String) (x : PySem.Expr) : Bool := decide ((node x).t = .callN) && S.isGlob g (node x).s && (node x).kw.isEmpty
noncomputable def srcArgs (S : Sc) (k : SK) (e : PySem.Expr) : Option (List PySem.Expr) := match k with
  | .plain => some [e]
  | .range => if callsG S "range" e then some (node e).l else none
  | .rev => if callsG S "reversed" e then some (node e).l else none
  | .zip => if callsG S "zip" e then some (node e).l else none
noncomputable def notCall0 (x : PySem.Expr) : Bool := !(decide ((node x).t = .callN) && (node x).l.isEmpty && (node x).kw.isEmpty)
noncomputable def isOne : MT → Bool
  | .one _ => true
  | _ => false
noncomputable def optOk (o : Option PySem.Expr) (n : Bool) (f : PySem.Expr → Bool) : Bool := match o with
  | none => n
  | some x => f x
noncomputable def kw1 (l : List Keyword) (name : String) : Option PySem.Expr := match l with
  | [k] => if k.arg = some (Str.ofString name) then some k.value else none
  | _ => none
noncomputable def cintOf : ME → Option Int
  | .cint i => some i
  | _ => none
noncomputable def isLocal (k : Option NameKind) : Bool := decide (k = some .local)
mutual
noncomputable def isE (S : Sc) : ME → PySem.Expr → Bool
  | .var i, x => decide ((node x).t = .name) && S.isVar i (node x).s
  | .glob g, x => decide ((node x).t = .name) && S.isGlob g (node x).s
  | .cint i, x => decide ((node x).t = .cint) && decide (i = (node x).i)
  | .cstr s, x => decide ((node x).t = .cstr) && decide ((node x).s = Str.ofString s)
  | .cbool b, x => decide ((node x).t = .cbool) && decide (b = (node x).bl)
  | .cnone, x => decide ((node x).t = .cnone)
  | .bin op a b, x => decide ((node x).t = .bin) && (opIs op (node x).op && isE S a (node x).a && isE S b (node x).b)
  | .neg a, x => decide ((node x).t = .neg) && isE S a (node x).a
  | .not a, x => decide ((node x).t = .not) && isE S a (node x).a
  | .and l, x => decide ((node x).t = .and) && isEs S l (node x).l
  | .or l, x => decide ((node x).t = .or) && isEs S l (node x).l
  | .cmp a ops es, x => decide ((node x).t = .cmp) && (isE S a (node x).a && copsIs ops (node x).os && isEs S es (node x).l)
  | .ite _ _ _, _ => false
  | .idx a i, x => decide ((node x).t = .sub) && (isE S a (node x).a && isE S i (node x).b)
  | .slice a lo hi st, x => decide ((node x).t = .slc) && (isE S a (node x).a && optOk (node x).o1 lo.isNone (isE S lo) && optOk (node x).o2 hi.isNone (isE S hi) && optOk (node x).o3 st.isNone (isE S st))
  | .list l, x => decide ((node x).t = .list) && isEs S l (node x).l
  | .tuple l, x => decide ((node x).t = .tup) && isEs S l (node x).l
  | .dict0 _, x => decide ((node x).t = .dict0)
  | .dict _ _, _ => false
  | .call f args, x => callsG S f x && (S.funs.contains f && isEs S args (node x).l && decide (args.length ≤ 25))
  | .bi f args, x => (match f with
    | .sortedR => decide ((node x).t = .callN) && (S.isGlob "sorted" (node x).s && (match kw1 (node x).kw "reverse" with | some e => decide ((node e).t = .cbool) && (node e).bl | none => false) && isEs S args (node x).l)
    | .maxD => decide ((node x).t = .callN) && (S.isGlob "max" (node x).s && (match kw1 (node x).kw "default" with | some e => decide ((node x).l.length = 1) && decide (args.length = 2) && (cintOf (args.getD 1 .cnone)).isSome && isEs S args ((node x).l ++ [e]) | none => false))
    | .sortedSet => false
    | f => callsG S (biName f) x && (isEs S args (node x).l && decide (args.length ≤ 25)))
  | .isinst a t, x => callsG S "isinstance" x && (match (node x).l with | [y, z] => decide ((node z).t = .name) && S.isGlob (tyName t) (node z).s && isE S a y | _ => false)
  | .meth m o args, x => decide ((node x).t = .callA) && ((node x).kw.isEmpty && decide ((node x).s = Str.ofString (mmName m)) && decide ((node x).p2.endLine = (node x).p.line) && notCall0 (node x).a && isE S o (node x).a && isEs S args (node x).l && decide (args.length ≤ 25))
  | .comp elt t k its ifs, x => decide ((node x).t = .lc) && ((match srcArgs S k (node x).c with | some as => isEs S its as | none => false) && isOne t && innerOk S (node x).sc && decide (t.vars.Nodup) && decide ((tgtNames (node x).b).Nodup) && isTgt (S.inner t (node x).b (node x).sc.names) t (node x).b && (tgtNames (node x).b).all (fun y => isLocal ((node x).sc.names.lookup y)) &&
        isEs (S.inner t (node x).b (node x).sc.names) ifs (node x).l && isE (S.inner t (node x).b (node x).sc.names) elt (node x).a)
noncomputable def isEs (S : Sc) : List ME → List PySem.Expr → Bool
  | [], es => es.isEmpty
  | a :: r, es => (match es with | [] => false | e :: es => isE S a e && isEs S r es)
end
inductive Tt where | other | asn | asx | expr | ret | ret0 | ite | for | while | pass
  | tri
  deriving DecidableEq
structure Ns where
  t : Tt
  a : PySem.Expr
  b : PySem.Expr
  c : PySem.Expr
  s : Str
  x : List PySem.Stmt
  y : List PySem.Stmt
  p : Pos
  p2 : Pos
  hs : List ExceptHandler
noncomputable def ns0 : Ns := ⟨.other, .Starred (.Name ⟨#[]⟩ default) default, .Starred (.Name ⟨#[]⟩ default) default, .Starred (.Name ⟨#[]⟩ default) default, ⟨#[]⟩, [], [], default, default, []⟩
noncomputable def nodeS (x : PySem.Stmt) : Ns := match x with
  | .Assign [.Name s np] v p => { ns0 with t := .asn, s := s, p2 := np, a := v, p := p }
  | .Assign [.Subscript o i sp] v p => { ns0 with t := .asx, b := o, c := i, p2 := sp, a := v, p := p }
  | .Expr v p => { ns0 with t := .expr, a := v, p := p }
  | .Return (some v) p => { ns0 with t := .ret, a := v, p := p }
  | .Return none p => { ns0 with t := .ret0, p := p }
  | .If c x y p => { ns0 with t := .ite, a := c, x := x, y := y, p := p }
  | .For tg it b [] p => { ns0 with t := .for, a := tg, b := it, x := b, p := p }
  | .While c b [] p => { ns0 with t := .while, a := c, x := b, p := p }
  | .Pass p => { ns0 with t := .pass, p := p }
  | .Try b hs [] [] p => { ns0 with t := .tri, x := b, hs := hs, p := p }
  | _ => ns0
noncomputable def buildS (n : Ns) (x : PySem.Stmt) : Tt → PySem.Stmt
  | .other => x
  | .asn => .Assign [.Name n.s n.p2] n.a n.p
  | .asx => .Assign [.Subscript n.b n.c n.p2] n.a n.p
  | .expr => .Expr n.a n.p
  | .ret => .Return (some n.a) n.p
  | .ret0 => .Return none n.p
  | .ite => .If n.a n.x n.y n.p
  | .for => .For n.a n.b n.x [] n.p
  | .while => .While n.a n.x [] n.p
  | .pass => .Pass n.p
  | .tri => .Try n.x n.hs [] [] n.p
theorem build_nodeS (x : PySem.Stmt) : buildS (nodeS x) x (nodeS x).t = x := by
  cases x <;> try rfl
  case Return v p => cases v <;> rfl
  case For tg it b e p => cases e <;> rfl
  case While c b e p => cases e <;> rfl
  case Try b hs o f p => cases o <;> cases f <;> rfl
  case Assign ts v p =>
    cases ts with
    | nil => rfl
    | cons t ts => cases t <;> cases ts <;> rfl
theorem V4 {x : PySem.Stmt} {t : Tt} (h : decide ((nodeS x).t = t) = true) : x = buildS (nodeS x) x t := by
  have := build_nodeS x
  rw [of_decide_eq_true h] at this
  exact this.symm
noncomputable def notComp (x : PySem.Expr) : Bool := !decide ((node x).t = .lc) && !decide ((node x).t = .other)
mutual
noncomputable def isS (S : Sc) : MS → PySem.Stmt → Bool
  | .assign i a, x => decide ((nodeS x).t = .asn) && (S.isSt i (nodeS x).s && isE S a (nodeS x).a)
  | .unpack _ _, _ => false
  | .setidx o i a, x => decide ((nodeS x).t = .asx) && (isE S o (nodeS x).b && isE S i (nodeS x).c && isE S a (nodeS x).a)
  | .expr a, x => decide ((nodeS x).t = .expr) && (notComp (nodeS x).a && isE S a (nodeS x).a)
  | .ret a, x => decide ((nodeS x).t = .ret) && isE S a (nodeS x).a
  | .ret0, x => decide ((nodeS x).t = .ret0)
  | .ite c a b, x => decide ((nodeS x).t = .ite) && (isE S c (nodeS x).a && isSs S a (nodeS x).x && isSs S b (nodeS x).y)
  | .for t k its body, x => decide ((nodeS x).t = .for) && ((match srcArgs S k (nodeS x).b with | some as => isEs S its as | none => false) && isTgt S t (nodeS x).a && isSs S body (nodeS x).x)
  | .while _ _, _ => false
  | .pass, x => decide ((nodeS x).t = .pass)
  | .opq chk, x => chk S.tab S.names x
  | .raise0, _ => true
  | .tri b, x => decide ((nodeS x).t = .tri) && (!(nodeS x).hs.isEmpty && isSs S b (nodeS x).x)
noncomputable def isSs (S : Sc) : List MS → List PySem.Stmt → Bool
  | [], ss => ss.isEmpty
  | a :: r, ss => (match ss with | [] => false | s :: ss => isS S a s && isSs S r ss)
end
noncomputable def isFun (fd : MFun) (tab : List (Nat × Str)) (funs : List String) (params : Arguments) (body : List PySem.Stmt) (sc : Scope) : Bool :=
  params.posonlyargs.isEmpty && params.vararg.isNone && params.kwonlyargs.isEmpty && params.kwarg.isNone && params.defaults.isEmpty && params.kw_defaults.isEmpty &&
  decide (params.args.length = fd.n) && (params.args.map (·.arg)).zipIdx.all (fun p => tab.lookup p.2 == some p.1 && kindSt (sc.names.lookup p.1)) &&
  decide (sc.kind = .function) && !sc.isGenerator && !sc.isCoroutine &&
  decide ((tab.map (·.2)).Nodup) && decide ((tab.map (·.1)).Nodup) && decide ((sc.names.map (·.1)).Nodup) && decide ((params.args.map (·.arg)).Nodup) && sc.names.all (fun p => !isFree p.2) && isSs ⟨tab, sc.names, funs⟩ fd.body body
section
variable {S : Sc} {x : PySem.Expr}
theorem and2 {a b : Bool} (h : (a && b) = true) : a = true ∧ b = true := by simpa using h
theorem Jx {i : Nat} (h : isE S (.var i) x = true) : ∃ y p, x = .Name y p ∧ S.isVar i y = true := ⟨_, _, inv (and2 h).1, (and2 h).2⟩
theorem inv_glob {g : String} (h : isE S (.glob g) x = true) : ∃ y p, x = .Name y p ∧ S.isGlob g y = true := ⟨_, _, inv (and2 h).1, (and2 h).2⟩
theorem inv_cint {i : Int} (h : isE S (.cint i) x = true) : ∃ k p, x = .Constant (.int i) k p := ⟨(node x).k, (node x).p, by rw [of_decide_eq_true (and2 h).2]; exact inv (and2 h).1⟩
theorem inv_cstr {t : String} (h : isE S (.cstr t) x = true) : ∃ k p, x = .Constant (.str (Str.ofString t)) k p := ⟨(node x).k, (node x).p, by rw [← of_decide_eq_true (and2 h).2]; exact inv (and2 h).1⟩
theorem Ac {b : Bool} (h : isE S (.cbool b) x = true) : ∃ k p, x = .Constant (.bool b) k p := ⟨(node x).k, (node x).p, by rw [of_decide_eq_true (and2 h).2]; exact inv (and2 h).1⟩
theorem inv_cnone (h : isE S .cnone x = true) : ∃ k p, x = .Constant .none k p := ⟨_, _, inv h⟩
theorem inv_bin {op : BOp} {a b : ME} (h : isE S (.bin op a b) x = true) : ∃ l o r p, x = .BinOp l o r p ∧ (opIs op o && isE S a l && isE S b r) = true := ⟨_, _, _, _, inv (and2 h).1, (and2 h).2⟩
theorem inv_neg {a : ME} (h : isE S (.neg a) x = true) : ∃ y p, x = .UnaryOp .USub y p ∧ isE S a y = true := ⟨_, _, inv (and2 h).1, (and2 h).2⟩
theorem inv_not {a : ME} (h : isE S (.not a) x = true) : ∃ y p, x = .UnaryOp .Not y p ∧ isE S a y = true := ⟨_, _, inv (and2 h).1, (and2 h).2⟩
theorem inv_and {l : List ME} (h : isE S (.and l) x = true) : ∃ xs p, x = .BoolOp .And xs p ∧ isEs S l xs = true := ⟨_, _, inv (and2 h).1, (and2 h).2⟩
theorem inv_or {l : List ME} (h : isE S (.or l) x = true) : ∃ xs p, x = .BoolOp .Or xs p ∧ isEs S l xs = true := ⟨_, _, inv (and2 h).1, (and2 h).2⟩
theorem Bc {a : ME} {ops : List COp} {es : List ME} (h : isE S (.cmp a ops es) x = true) : ∃ l os cs p, x = .Compare l os cs p ∧ (isE S a l && copsIs ops os && isEs S es cs) = true := ⟨_, _, _, _, inv (and2 h).1, (and2 h).2⟩
theorem inv_idx {a i : ME} (h : isE S (.idx a i) x = true) : ∃ v y p, x = .Subscript v y p ∧ (isE S a v && isE S i y) = true := ⟨_, _, _, inv (and2 h).1, (and2 h).2⟩
inductive SlParts (S : Sc) (a lo hi st : ME) (x : PySem.Expr) : Prop
  | mk (v : _) (l : _) (u : _) (t : _) (sp : _) (p : _) (e0 : x = .Subscript v (.Slice l u t sp) p) (e1 : (isE S a v && optOk l lo.isNone (isE S lo) && optOk u hi.isNone (isE S hi) && optOk t st.isNone (isE S st)) = true)
theorem inv_slice {a lo hi st : ME} (h : isE S (.slice a lo hi st) x = true) : SlParts S a lo hi st x := ⟨_, _, _, _, _, _, inv (and2 h).1, (and2 h).2⟩
theorem inv_list {l : List ME} (h : isE S (.list l) x = true) : ∃ xs p, x = .List xs p ∧ isEs S l xs = true := ⟨_, _, inv (and2 h).1, (and2 h).2⟩
theorem inv_tuple {l : List ME} (h : isE S (.tuple l) x = true) : ∃ xs k p, x = .Tuple xs k p ∧ isEs S l xs = true := ⟨_, _, _, inv (and2 h).1, (and2 h).2⟩
theorem inv_dict0 {b : Bool} (h : isE S (.dict0 b) x = true) : ∃ p, x = .Dict [] [] p := ⟨_, inv h⟩
theorem Jy {g : String} (h : callsG S g x = true) : ∃ y np p, x = .Call (.Name y np) (node x).l [] p ∧ S.isGlob g y = true := by
  obtain ⟨h1, h3⟩ := and2 h
  obtain ⟨h1, h2⟩ := and2 h1
  refine ⟨_, (node x).p2, (node x).p, (inv h1).trans ?_, h2⟩
  show Expr.Call _ _ (node x).kw _ = _
  rw [List.isEmpty_iff.mp h3]
theorem ifcall {nm : String} {as : List PySem.Expr} (h : (if callsG S nm x then some (node x).l else none) = some as) : ∃ g np p, x = .Call (.Name g np) as [] p ∧ S.isGlob nm g = true := by
  by_cases q : callsG S nm x = true
  · rw [if_pos q] at h; cases h; exact Jy q
  · rw [if_neg q] at h; cases h
theorem V3 {f : String} {args : List ME} (h : isE S (.call f args) x = true) : ∃ y np xs p, x = .Call (.Name y np) xs [] p ∧ S.isGlob f y = true ∧ (S.funs.contains f && isEs S args xs && decide (args.length ≤ 25)) = true := by
  obtain ⟨y, np, p, e, hg⟩ := Jy (and2 h).1
  exact ⟨y, np, _, p, e, hg, (and2 h).2⟩
inductive IiParts (S : Sc) (a : ME) (t : TY) (x : PySem.Expr) : Prop
  | mk (g : _) (np : _) (y : _) (ty : _) (tp : _) (p : _) (e0 : x = .Call (.Name g np) [y, .Name ty tp] [] p) (e1 : S.isGlob "isinstance" g = true) (e2 : S.isGlob (tyName t) ty = true) (e3 : isE S a y = true)
theorem inv_isinst {a : ME} {t : TY} (h : isE S (.isinst a t) x = true) : IiParts S a t x := by
  obtain ⟨g, np, p, e, hg⟩ := Jy (and2 h).1
  have h2 := (and2 h).2
  generalize (node x).l = l at e h2
  match l, e, h2 with
  | [y, z], e, h2 =>
    obtain ⟨h3, h4⟩ := and2 h2
    obtain ⟨h3, h5⟩ := and2 h3
    have ez := inv h3
    refine ⟨g, np, y, _, (node z).p, p, e.trans ?_, hg, h5, h4⟩
    exact congrArg (fun q => Expr.Call (.Name g np) [y, q] [] p) ez
  | [], _, h2 => cases h2
  | [_], _, h2 => cases h2
  | _ :: _ :: _ :: _, _, h2 => cases h2
inductive MtParts (S : Sc) (m : MM) (o : ME) (args : List ME) (x : PySem.Expr) : Prop
  | mk (ov : _) (ap : _) (xs : _) (p : _) (e0 : x = .Call (.Attribute ov (Str.ofString (mmName m)) ap) xs [] p) (e1 : ap.endLine = p.line) (e2 : notCall0 ov = true) (e3 : isE S o ov = true) (e4 : isEs S args xs = true) (e5 : args.length ≤ 25)
theorem inv_meth {m : MM} {o : ME} {args : List ME} (h : isE S (.meth m o args) x = true) : MtParts S m o args x := by
  obtain ⟨h0, h⟩ := and2 h
  obtain ⟨h, h6⟩ := and2 h
  obtain ⟨h, h5⟩ := and2 h
  obtain ⟨h, h4⟩ := and2 h
  obtain ⟨h, h3⟩ := and2 h
  obtain ⟨h, h2⟩ := and2 h
  obtain ⟨h, h1⟩ := and2 h
  refine ⟨_, (node x).p2, _, (node x).p, (inv h0).trans ?_, of_decide_eq_true h2, h3, h4, h5, of_decide_eq_true h6⟩
  show Expr.Call (.Attribute (node x).a (node x).s (node x).p2) (node x).l (node x).kw (node x).p = _
  rw [List.isEmpty_iff.mp h, of_decide_eq_true h1]
noncomputable def plainBI : BI → Bool
  | .maxD | .sortedR | .sortedSet => false
  | _ => true
theorem inv_bi {f : BI} {l : List ME} (hp : plainBI f = true) (h : isE S (.bi f l) x = true) : ∃ g np as p, x = .Call (.Name g np) as [] p ∧ S.isGlob (biName f) g = true ∧ isEs S l as = true := by
  have h' : (callsG S (biName f) x && (isEs S l (node x).l && decide (l.length ≤ 25))) = true := by
    cases f <;> first | exact h | cases hp
  obtain ⟨y, np, p, e, hg⟩ := Jy (and2 h').1
  exact ⟨y, np, _, p, e, hg, (and2 (and2 h').2).1⟩
theorem len2 {α : Type} {l : List α} (h : l.length = 2) : ∃ a b, l = [a, b] := by
  match l, h with
  | [a, b], _ => exact ⟨a, b, rfl⟩
theorem inv_kw1 {l : List Keyword} {name : String} {e : PySem.Expr} (h : kw1 l name = some e) : ∃ kp, l = [⟨some (Str.ofString name), e, kp⟩] := by
  cases l with
  | nil => cases h
  | cons k l =>
    cases l with
    | cons _ _ => cases h
    | nil =>
      obtain ⟨arg, v, p⟩ := k
      have h : (if arg = some (Str.ofString name) then some v else none) = some e := h
      by_cases q : arg = some (Str.ofString name)
      · rw [if_pos q] at h; cases h; subst q; exact ⟨p, rfl⟩
      · rw [if_neg q] at h; cases h
theorem cintOf_some {a : ME} {i : Int} (h : cintOf a = some i) : a = .cint i := by
  cases a <;> first | cases h; rfl | cases h
inductive SrParts (S : Sc) (l : List ME) (x : PySem.Expr) : Prop
  | mk (g : _) (np : _) (as : _) (k : _) (p1 : _) (p2 : _) (p : _) (e0 : x = .Call (.Name g np) as [⟨some (Str.ofString "reverse"), .Constant (.bool true) k p1, p2⟩] p) (e1 : S.isGlob "sorted" g = true) (e2 : isEs S l as = true)
theorem inv_sortedR {l : List ME} (h : isE S (.bi .sortedR l) x = true) : SrParts S l x := by
  obtain ⟨h0, h⟩ := and2 h
  obtain ⟨h, h1⟩ := and2 h
  obtain ⟨hg, h⟩ := and2 h
  cases q : kw1 (node x).kw "reverse" with
  | none => rw [q] at h; cases h
  | some e =>
    rw [q] at h
    obtain ⟨h2, h3⟩ := and2 h
    obtain ⟨kp, hk⟩ := inv_kw1 q
    have he := inv h2
    refine ⟨_, (node x).p2, _, (node e).k, (node e).p, kp, (node x).p, (inv h0).trans ?_, hg, h1⟩
    show Expr.Call _ _ (node x).kw _ = _
    have he' : e = .Constant (.bool true) (node e).k (node e).p := he.trans (by show Expr.Constant (.bool (node e).bl) _ _ = _; rw [h3])
    rw [hk, ← he']
inductive MxParts (S : Sc) (l : List ME) (x : PySem.Expr) : Prop
  | mk (g : _) (np : _) (y : _) (a : _) (i : _) (k : _) (p1 : _) (p2 : _) (p : _) (e0 : x = .Call (.Name g np) [y] [⟨some (Str.ofString "default"), .Constant (.int i) k p1, p2⟩] p) (e1 : l = [a, .cint i]) (e2 : S.isGlob "max" g = true) (e3 : isE S a y = true)
theorem inv_maxD {l : List ME} (h : isE S (.bi .maxD l) x = true) : MxParts S l x := by
  obtain ⟨h0, h⟩ := and2 h
  obtain ⟨hg, h⟩ := and2 h
  cases q : kw1 (node x).kw "default" with
  | none => rw [q] at h; cases h
  | some e =>
    rw [q] at h
    obtain ⟨h, h4⟩ := and2 h
    obtain ⟨h, h3⟩ := and2 h
    obtain ⟨h1, h2⟩ := and2 h
    obtain ⟨kp, hk⟩ := inv_kw1 q
    obtain ⟨y, hy⟩ := List.length_eq_one_iff.mp (of_decide_eq_true h1)
    obtain ⟨a, d, rfl⟩ := len2 (of_decide_eq_true h2)
    rw [hy] at h4
    obtain ⟨i, hi⟩ := Option.isSome_iff_exists.mp h3
    obtain rfl := cintOf_some hi
    obtain ⟨k, p1, he⟩ := inv_cint (and2 (and2 h4).2).1
    refine ⟨_, (node x).p2, y, a, i, k, p1, kp, (node x).p, (inv h0).trans ?_, rfl, hg, (and2 h4).1⟩
    show Expr.Call _ (node x).l (node x).kw _ = _
    rw [hy, hk, he]
inductive CpParts (S : Sc) (elt : ME) (t : MT) (k : SK) (its ifs : List ME) (x : PySem.Expr) : Prop
  | mk (el : _) (tg : _) (iter : _) (ifs' : _) (sc : _) (p : _) (e0 : x = .ListComp el [⟨tg, iter, ifs', 0⟩] sc p) (e1 : (∃ as, srcArgs S k iter = some as ∧ isEs S its as = true)) (e2 : isOne t = true) (e3 : innerOk S sc = true) (e4 : t.vars.Nodup) (e5 : (tgtNames tg).Nodup) (e6 : isTgt (S.inner t tg sc.names) t tg = true) (e7 : (∀ y ∈ tgtNames tg, sc.names.lookup y = some .local)) (e8 : isEs (S.inner t tg sc.names) ifs ifs' = true) (e9 : isE (S.inner t tg sc.names) elt el = true)
theorem inv_comp {elt : ME} {t : MT} {k : SK} {its ifs : List ME} (h : isE S (.comp elt t k its ifs) x = true) : CpParts S elt t k its ifs x := by
  obtain ⟨h0, h⟩ := and2 h
  obtain ⟨h, h8⟩ := and2 h
  obtain ⟨h, h7⟩ := and2 h
  obtain ⟨h, h6⟩ := and2 h
  obtain ⟨h, h5⟩ := and2 h
  obtain ⟨h, h4⟩ := and2 h
  obtain ⟨h, h3⟩ := and2 h
  obtain ⟨h, h2⟩ := and2 h
  obtain ⟨h, h1⟩ := and2 h
  refine ⟨_, _, _, _, _, (node x).p, inv h0, ?_, h1, h2, of_decide_eq_true h3, of_decide_eq_true h4, h5, fun y hy => ?_, h7, h8⟩
  · cases q : srcArgs S k (node x).c with
    | none => rw [q] at h; cases h
    | some as => rw [q] at h; exact ⟨as, rfl, h⟩
  · exact of_decide_eq_true (List.all_eq_true.mp h6 y hy)
theorem Xw {e : ME} {l : List ME} {x : PySem.Expr} {xs : List PySem.Expr} (h : isEs S (e :: l) (x :: xs) = true) : isE S e x = true ∧ isEs S l xs = true := and2 h
end
section
variable {S : Sc} {x : PySem.Stmt}
theorem invS_assign {i : Nat} {a : ME} (h : isS S (.assign i a) x = true) : ∃ y py v p, x = .Assign [.Name y py] v p ∧ S.isSt i y = true ∧ isE S a v = true := ⟨_, _, _, _, V4 (and2 h).1, and2 (and2 h).2⟩
theorem invS_setidx {o i a : ME} (h : isS S (.setidx o i a) x = true) : ∃ ov iv sp v p, x = .Assign [.Subscript ov iv sp] v p ∧ (isE S o ov && isE S i iv && isE S a v) = true := ⟨_, _, _, _, _, V4 (and2 h).1, (and2 h).2⟩
theorem Vs {a : ME} (h : isS S (.expr a) x = true) : ∃ v p, x = .Expr v p ∧ notComp v = true ∧ isE S a v = true := ⟨_, _, V4 (and2 h).1, and2 (and2 h).2⟩
theorem Oh {a : ME} (h : isS S (.ret a) x = true) : ∃ v p, x = .Return (some v) p ∧ isE S a v = true := ⟨_, _, V4 (and2 h).1, (and2 h).2⟩
theorem invS_ret0 (h : isS S .ret0 x = true) : ∃ p, x = .Return none p := ⟨_, V4 h⟩
theorem invS_pass (h : isS S .pass x = true) : ∃ p, x = .Pass p := ⟨_, V4 h⟩
theorem Ki {c : ME} {a b : List MS} (h : isS S (.ite c a b) x = true) : ∃ t y z p, x = .If t y z p ∧ (isE S c t && isSs S a y && isSs S b z) = true := ⟨_, _, _, _, V4 (and2 h).1, (and2 h).2⟩
theorem invS_tri {b : List MS} (h : isS S (.tri b) x = true) : ∃ y hs p, x = .Try y hs [] [] p ∧ (!hs.isEmpty) = true ∧ isSs S b y = true := ⟨_, _, _, V4 (and2 h).1, and2 (and2 h).2⟩
inductive FrParts (S : Sc) (t : MT) (k : SK) (its : List ME) (body : List MS) (x : PySem.Stmt) : Prop
  | mk (tg : _) (iter : _) (b : _) (p : _) (as : _) (e0 : x = .For tg iter b [] p) (e1 : srcArgs S k iter = some as) (e2 : isEs S its as = true) (e3 : isTgt S t tg = true) (e4 : isSs S body b = true)
theorem invS_for {t : MT} {k : SK} {its : List ME} {body : List MS} (h : isS S (.for t k its body) x = true) : FrParts S t k its body x := by
  obtain ⟨h0, h⟩ := and2 h
  obtain ⟨h, h2⟩ := and2 h
  obtain ⟨h, h1⟩ := and2 h
  cases q : srcArgs S k (nodeS x).b with
  | none => rw [q] at h; cases h
  | some as => rw [q] at h; exact ⟨_, _, _, _, as, V4 h0, q, h, h1, h2⟩
theorem Xy {e : MS} {l : List MS} {x : PySem.Stmt} {xs : List PySem.Stmt} (h : isSs S (e :: l) (x :: xs) = true) : isS S e x = true ∧ isSs S l xs = true := and2 h
end
end Mine
end
section
namespace Mine
open PySem PySem.Calls PyProof.Rows
inductive PostV (prog : Program) (w : World) (fz : List Addr) (μ : MH) (s : Shared) (Q : MQ) (v : Value) (s' : Shared) : Prop
  | mk (mv : MV) (μ' : MH) (q : Q mv μ') (rv : RepV s'.heap mv v) (r : RepH prog w μ' s'.heap) (g : Grow fz μ s μ' s')
structure OkA (d : Nat) (A : Around) : Prop where
  hand : A.handled = none
  depth : A.depth + d < recursionLimit
  units : A.units + 4 * d + 100 < cLine
section
variable {prog : Program} {w : World} {fz : List Addr} {μ : MH} {s : Shared} {Q : MQ} {A : Around} {E : Value → Shared → Prop}
theorem RepH.free {h : Heap} (r : RepH prog w μ h) {c : Addr} (hc : h.get? c = none) : μ c = none := by
  cases q : μ c with
  | none => rfl
  | some o => obtain ⟨x, hx, _⟩ := (r c o q).obj; rw [hc] at hx; cases hx
theorem FzIn.free (f : FzIn fz μ) {c : Addr} (hc : μ c = none) : c ∉ fz := fun m => f c m hc
theorem Z0 (h : Heap) : h.get? h.objs.size = none := by
  cases q : h.get? h.objs.size with
  | none => rfl
  | some o => exact absurd (Heap.lt_size q) (Nat.lt_irrefl _)
theorem Xp {mv : MV} {v : Value} {s' : Shared} (hq : Q mv μ) (r : RepH prog w μ s.heap) (hv : RepV s.heap mv v) (hh : s'.heap = s.heap) (ho : s'.os = s.os) (hg : s'.gens = s.gens) : PostV prog w fz μ s Q v s' :=
  ⟨mv, μ, hq, hh ▸ hv, hh ▸ r, ⟨fun b o _ e => ⟨hh ▸ e, rfl⟩, ho, hg⟩⟩
theorem Yo {mv : MV} {v : Value} {h' : Heap} {tk : Nat} (hq : Q mv μ) (r : RepH prog w μ s.heap) (k : ∀ b o, s.heap.get? b = some o → h'.get? b = some o) (hv : RepV h' mv v) : PostV prog w fz μ s Q v { s with heap := h', toks := tk } :=
  ⟨mv, μ, hq, hv, r.ext k, .ext k⟩
theorem Z7 {o : MO} {c : Addr} {h' : Heap} {tk : Nat} (ha : allocM fz μ o fun c μ' => Q (.ref c) μ') (r : RepH prog w μ s.heap) (f : FzIn fz μ) (hc : s.heap.get? c = none)
    (k : ∀ b o, s.heap.get? b = some o → h'.get? b = some o) (ho : RepO prog w h' c o) : PostV prog w fz μ s Q (.ref c) { s with heap := h', toks := tk } := by
  have hm := r.free hc
  exact ⟨.ref c, upd μ c o, ha c hm (f.free hm), rfl, r.alloc k ho, .alloc k hc⟩
theorem Zs {o : MO} {ob : Obj} {tk : Nat} (ha : allocM fz μ o fun c μ' => Q (.ref c) μ') (r : RepH prog w μ s.heap) (f : FzIn fz μ)
    (ho : RepO prog w (s.heap.push ob) s.heap.objs.size o) : PostV prog w fz μ s Q (.ref s.heap.objs.size) { s with heap := s.heap.push ob, toks := tk } :=
  Z7 ha r f (Z0 _) (fun b x e => Heap.get?_push_of_some _ e) ho
theorem Yx {l : List MV} {vs : List Value} {h : Heap} (hv : RepVs h l vs) : RepO prog w (h.push { cls := .type "list", data := .seq vs.toArray }) h.objs.size (.list l) :=
  ⟨vs, ⟨0, Heap.get?_push_size _ rfl⟩, hv.keepT (.of_all fun b x e => Heap.get?_push_of_some _ e)⟩
theorem Xq {n : Nat} (h : fits n) : n ≤ sizeLine := Nat.le_trans h (by decide)
theorem notPylong (x : Int) {y : Int} (h : small y) : Builtin.divisionGoesByPylong x y = false := by
  unfold Builtin.divisionGoesByPylong
  have h1 : y.natAbs < 2 ^ 64 := by have := h.1; have := h.2; lia
  have h2 : y.natAbs.log2 < 64 := by
    by_cases q : y.natAbs = 0
    · rw [q]; decide
    · exact (Nat.log2_lt q).mpr h1
  have h3 : (if (y == 0) = true then 0 else y.natAbs.log2 / 30 + 1) ≤ 300 := by split <;> (first | exact Nat.zero_le _ | lia)
  simp only [gt_iff_lt, Bool.and_eq_false_iff, decide_eq_false_iff_not, Nat.not_lt]
  exact .inl h3
theorem Kf {l : List MV} {vs : List Value} {h : Heap} (hv : RepVs h l vs) : RepV (h.push { cls := .type "tuple", data := .seq vs.toArray }) (.tup l) (.ref h.objs.size) := by
  simp only [RepV]
  exact ⟨_, vs, 0, rfl, Heap.get?_push_size _ rfl, hv.keepT (.of_all fun b x e => Heap.get?_push_of_some _ e)⟩
theorem Zp {a : Addr} {l : List MV} (r : RepH prog w μ s.heap) (e : lst μ a = some l) : ∃ vs : List Value, s.heap.PlainList a vs.toArray ∧ RepVs s.heap l vs ∧ μ a = some (.list l) := by
  unfold lst at e
  split at e
  · rename_i l' q; cases e
    obtain ⟨vs, h1, h2⟩ := r a _ q
    exact ⟨vs, h1, h2, q⟩
  · cases e
theorem op_bin {op : BOp} {o : Operator} {a b : MV} {va vb : Value} {d : Nat} (ho : opIs op o = true) (ha : RepV s.heap a va) (hb : RepV s.heap b vb) (r : RepH prog w μ s.heap) (f : FzIn fz μ) (hA : OkA d A)
    (h : binM fz op a b Q μ) : wpAny (model prog w) A (binaryOp o va vb) (PostV prog w fz μ s Q) E s := by
  obtain rfl := of_decide_eq_true ho
  cases op with
  | sub =>
    obtain ⟨x, y, rfl, rfl, h⟩ := Z9 h
    obtain ⟨t, rfl⟩ := ha; obtain ⟨u, rfl⟩ := hb
    exact PyProof.Rows.sub_int' (Xp h r (by simp [RepV]) rfl rfl rfl)
  | mul =>
    obtain ⟨x, y, rfl, rfl, h⟩ := Z9 h
    obtain ⟨t, rfl⟩ := ha; obtain ⟨u, rfl⟩ := hb
    obtain ⟨hs, h⟩ := h
    refine PyProof.Rows.mul_int (Xp h r (by simp [RepV]) rfl rfl rfl) ?_
    rcases hs with hs | hs
    · exact IntMulOk.of_left (intBits_le_64 (by have := hs.1; lia) (by have := hs.2; exact Int.lt_of_lt_of_le (by assumption) (by decide)))
    · exact IntMulOk.of_right (intBits_le_64 (by have := hs.1; lia) (by have := hs.2; exact Int.lt_of_lt_of_le (by assumption) (by decide)))
  | fdiv =>
    obtain ⟨x, y, rfl, rfl, h⟩ := Z9 h
    obtain ⟨t, rfl⟩ := ha; obtain ⟨u, rfl⟩ := hb
    obtain ⟨hs, h⟩ := h
    exact PyProof.Rows.floordiv_int hs.1 (Xp h r (by simp [RepV]) rfl rfl rfl) (.inl (notPylong _ hs.2))
  | mod =>
    obtain ⟨x, y, rfl, rfl, h⟩ := Z9 h
    obtain ⟨t, rfl⟩ := ha; obtain ⟨u, rfl⟩ := hb
    exact PyProof.Rows.mod_int' h.1 (Xp h.2 r (by simp [RepV]) rfl rfl rfl)
  | pow =>
    obtain ⟨x, y, rfl, rfl, h⟩ := Z9 h
    obtain ⟨t, rfl⟩ := ha; obtain ⟨u, rfl⟩ := hb
    obtain ⟨rfl, hs, h⟩ := h
    refine PyProof.Rows.pow_int hs.1 ?_ (Xp h r (by simp [RepV]) rfl rfl rfl)
    have e : Builtin.Int.intBits 10 = 4 := by decide +kernel
    rw [e]; have := hs.2; lia
  | add =>
    cases a with
    | int x =>
      cases b with
      | int y =>
        obtain ⟨t, rfl⟩ := ha; obtain ⟨u, rfl⟩ := hb
        exact PyProof.Rows.add_int (Xp h r (by simp [RepV]) rfl rfl rfl)
      | _ => exact False.elim h
    | str x =>
      cases b with
      | str y =>
        obtain ⟨t, rfl⟩ := ha; obtain ⟨u, rfl⟩ := hb
        exact PyProof.Rows.add_str (fun t' tk => Xp h.2 r (by simp [RepV]) rfl rfl rfl) (Xq h.1)
      | _ => exact False.elim h
    | tup x =>
      cases b with
      | tup y =>
        obtain ⟨hz, h⟩ := h
        have ha' := ha; have hb' := hb
        obtain ⟨p, vs, n1, rfl, h1, hv⟩ := ha; obtain ⟨q, ws, n2, rfl, h2, hw⟩ := hb
        have l1 := hv.length; have l2 := hw.length
        have hz := Xq hz
        by_cases e1 : x = []
        · subst e1
          have e : vs = [] := by simpa using l1
          subst e
          exact concat_meets ⟨_, h1, rfl⟩ ⟨_, h2, rfl⟩ noFill_tuple_add seq_tuple_add F.slot_tuple_add F.entry_tuple_add (F.args_tuple_add_2 _ _) (AutoSeq1.tuple___add___tuple_tuple_0 p _ n1 q _ n2 rfl)
            ⟨h1, h2, Xp h r (by simpa using hb') rfl rfl rfl⟩
        · have e1' : ¬ vs.toArray.isEmpty = true := by simp; intro e; subst e; simp at l1; exact e1 (List.eq_nil_of_length_eq_zero l1.symm)
          by_cases e2 : y = []
          · subst e2
            have e : ws = [] := by simpa using l2
            subst e
            exact concat_meets ⟨_, h1, rfl⟩ ⟨_, h2, rfl⟩ noFill_tuple_add seq_tuple_add F.slot_tuple_add F.entry_tuple_add (F.args_tuple_add_2 _ _) (AutoSeq1.tuple___add___tuple_tuple_1 p _ n1 q _ n2 e1' rfl)
              ⟨h1, h2, Xp h r (by simpa using ha') rfl rfl rfl⟩
          · have e2' : ¬ ws.toArray.isEmpty = true := by simp; intro e; subst e; simp at l2; exact e2 (List.eq_nil_of_length_eq_zero l2.symm)
            refine P.add_tuple h1 h2 e1' e2' ?_ (by simp; simp [*])
            rw [show vs.toArray ++ ws.toArray = (vs ++ ws).toArray by simp]
            exact Yo h r (fun b x e => Heap.get?_push_of_some _ e) (Kf (hv.append hw))
      | _ => exact False.elim h
    | ref p =>
      cases b with
      | ref q =>
        obtain ⟨x, y, hx, hy, hz, h⟩ := h
        obtain rfl : va = .ref p := ha
        obtain rfl : vb = .ref q := hb
        obtain ⟨vs, ⟨n1, h1⟩, hv, _⟩ := Zp r hx
        obtain ⟨ws, ⟨n2, h2⟩, hw, _⟩ := Zp r hy
        refine P.add_list h1 h2 ?_ (by have := hv.length; have := hw.length; have := Xq hz; simp; simp [*])
        rw [show vs.toArray ++ ws.toArray = (vs ++ ws).toArray by simp]
        exact Zs h r f (Yx (hv.append hw))
      | _ => exact False.elim h
    | _ => exact False.elim h
end
end Mine
end
section
namespace Mine
open PySem PySem.Calls PyProof.Rows
section
variable {prog : Program} {w : World} {fz : List Addr} {μ : MH} {s : Shared} {Q : MQ} {A : Around} {E : Value → Shared → Prop} {d : Nat}
noncomputable def Still (s s' : Shared) : Prop := s'.heap = s.heap ∧ s'.os = s.os ∧ s'.gens = s.gens
theorem Still.refl : Still s s := ⟨rfl, rfl, rfl⟩
theorem Z6 {mv : MV} {v : Value} {s' : Shared} (hq : Q mv μ) (r : RepH prog w μ s.heap) (hv : RepV s.heap mv v) (st : Still s s') : PostV prog w fz μ s Q v s' :=
  Xp hq r hv st.1 st.2.1 st.2.2
theorem Jk {v : MV} {x : Value} {b : Bool} (hv : RepV s.heap v x) (r : RepH prog w μ s.heap) (e : truthy μ v = some b) :
    wpAny (model prog w) A (PySem.truthy x) (fun b' s' => b' = b ∧ Still s s') E s := by
  cases v with
  | none => obtain rfl := Option.some.inj e; obtain rfl : x = .none := hv; exact truthy_none ⟨rfl, .refl⟩
  | bool c => obtain rfl := Option.some.inj e; obtain rfl : x = .bool c := hv; exact wpAny_truthy_bool ⟨rfl, .refl⟩
  | int i => obtain rfl := Option.some.inj e; obtain ⟨t, rfl⟩ := hv; exact PyProof.Rows.truthy_int ⟨by simp [bne, BEq.beq], .refl⟩
  | ref a =>
    obtain rfl : x = .ref a := hv
    replace e : truthyO (μ a) = some b := e
    cases q : μ a with
    | none => rw [q] at e; cases e
    | some mo =>
      rw [q] at e
      cases mo with
      | list l =>
        have e : (if l.length ≤ 2 ^ 20 then some (!l.isEmpty) else none) = some b := e
        by_cases hs : l.length ≤ 2 ^ 20
        · rw [if_pos hs] at e
          obtain rfl := Option.some.inj e
          obtain ⟨vs, h1, h2⟩ := r a _ q
          have hl := h2.length
          refine wpAny_truthy_list h1.isList (by simp; lia) ⟨?_, rfl, rfl, rfl⟩
          cases l <;> cases vs <;> first | rfl | cases hl
        · rw [if_neg hs] at e; cases e
      | idict l => cases e
      | odict l x => cases e
  | _ => cases e
noncomputable def DR (h : Heap) (n : Nat) (x : Value) (dd : PyData) : Prop := ∃ as, Reads h x dd as ∧ dd.canLay0 = true ∧ dd.depth ≤ n
noncomputable def DRs (h : Heap) (n : Nat) (vs : List Value) (ds : List PyData) : Prop := ∃ as, ReadsAll h vs ds as ∧ PyData.canLayAll0 ds = true ∧ PyData.depthAll ds ≤ n
theorem deep_all {n : Nat} (ih : ∀ (v : MV) (x : Value) (dd : PyData), deep μ n v = some dd → RepV s.heap v x → DR s.heap n x dd) : ∀ (l : List MV) (vs : List Value) (ds : List PyData), l.mapM (deep μ n) = some ds → RepVs s.heap l vs → DRs s.heap n vs ds := by
  intro l
  induction l with
  | nil =>
    intro vs ds e h
    cases vs with
    | cons _ _ => exact False.elim h
    | nil => obtain rfl : ([] : List PyData) = ds := Option.some.inj e; exact ⟨_, .nil, rfl, Nat.zero_le _⟩
  | cons v l il =>
    intro vs ds e h
    cases vs with
    | nil => exact False.elim h
    | cons x vs =>
      rw [List.mapM_cons] at e
      obtain ⟨d1, e1, e⟩ := Option.bind_eq_some_iff.mp e
      obtain ⟨d2, e2, e⟩ := Option.bind_eq_some_iff.mp e
      obtain rfl : d1 :: d2 = ds := Option.some.inj e
      obtain ⟨as, a1, a2, a3⟩ := ih v x d1 e1 h.1
      obtain ⟨bs, b1, b2, b3⟩ := il vs d2 e2 h.2
      exact ⟨_, .cons a1 b1, by simp only [PyData.canLayAll0, a2, b2, Bool.and_self], by simp only [PyData.depthAll]; exact Nat.max_le.mpr ⟨a3, b3⟩⟩
theorem deep_str {n : Nat} {i : Str} {x : Value} {dd : PyData} (e : deep μ n (.str i) = some dd) (h : RepV s.heap (.str i) x) : DR s.heap n x dd := by
  have e : (if PyData.strOk i then some (PyData.str i) else none) = some dd := by cases n <;> exact e
  by_cases ok : PyData.strOk i = true
  · rw [if_pos ok] at e
    obtain rfl := Option.some.inj e
    obtain ⟨t, rfl⟩ := h
    exact ⟨_, .str i t, by simpa [PyData.canLay0] using ok, by simp only [PyData.depth]; exact Nat.zero_le _⟩
  · rw [if_neg ok] at e; cases e
theorem deep_int {n : Nat} {i : Int} {x : Value} {dd : PyData} (e : deep μ n (.int i) = some dd) (h : RepV s.heap (.int i) x) : DR s.heap n x dd := by
  obtain rfl : PyData.int i = dd := Option.some.inj (by cases n <;> exact e)
  obtain ⟨t, rfl⟩ := h
  exact ⟨_, .int i t, rfl, by simp only [PyData.depth]; exact Nat.zero_le _⟩
theorem Ak {n : Nat} {b : Bool} {x : Value} {dd : PyData} (e : deep μ n (.bool b) = some dd) (h : RepV s.heap (.bool b) x) : DR s.heap n x dd := by
  obtain rfl : PyData.bool b = dd := Option.some.inj (by cases n <;> exact e)
  obtain rfl : x = .bool b := h
  exact ⟨_, .bool b, rfl, by simp only [PyData.depth]; exact Nat.zero_le _⟩
theorem Aj {n : Nat} {x : Value} {dd : PyData} (e : deep μ n .none = some dd) (h : RepV s.heap .none x) : DR s.heap n x dd := by
  obtain rfl : PyData.none = dd := Option.some.inj (by cases n <;> exact e)
  obtain rfl : x = .none := h
  exact ⟨_, .none, rfl, by simp only [PyData.depth]; exact Nat.zero_le _⟩
theorem Y6 (r : RepH prog w μ s.heap) : ∀ (n : Nat) (v : MV) (x : Value) (dd : PyData), deep μ n v = some dd → RepV s.heap v x → DR s.heap n x dd := by
  intro n
  induction n with
  | zero =>
    intro v x dd e h
    cases v with
    | none => exact Aj e h
    | bool b => exact Ak e h
    | int i => exact deep_int e h
    | str i => exact deep_str e h
    | _ => cases e
  | succ n ih =>
    intro v x dd e h
    cases v with
    | none => exact Aj e h
    | bool b => exact Ak e h
    | int i => exact deep_int e h
    | str i => exact deep_str e h
    | tup l =>
      obtain ⟨a, vs, k, rfl, ho, hv⟩ := h
      obtain ⟨ds, hd, rfl⟩ := Option.map_eq_some_iff.mp e
      obtain ⟨as, h1, h2, h3⟩ := deep_all ih l vs ds hd hv
      exact ⟨_, .tuple ho rfl rfl (by simpa using h1), by simpa [PyData.canLay0] using h2, by simp only [PyData.depth]; exact Nat.succ_le_succ (by assumption)⟩
    | ref a =>
      have e : (match lst μ a with | some l => (l.mapM (deep μ n)).map PyData.list | none => none) = some dd := e
      cases q : lst μ a with
      | none => rw [q] at e; cases e
      | some l =>
        rw [q] at e
        obtain rfl : x = .ref a := h
        obtain ⟨vs, ⟨k, ho⟩, hv, _⟩ := Zp r q
        obtain ⟨ds, hd, rfl⟩ := Option.map_eq_some_iff.mp e
        obtain ⟨as, h1, h2, h3⟩ := deep_all ih l vs ds hd hv
        exact ⟨_, .list ho rfl rfl (by simpa using h1), by simpa [PyData.canLay0] using h2, by simp only [PyData.depth]; exact Nat.succ_le_succ (by assumption)⟩
    | _ => cases e
theorem op_eq {neg : Bool} {a b : MV} {x y : Value} {r' : Bool} (ha : RepV s.heap a x) (hb : RepV s.heap b y) (r : RepH prog w μ s.heap) (hA : OkA d A) (e : eqD μ a b = some r')
    {Q : Value → Shared → Prop} (h : Q (.bool (if neg then !r' else r')) s) : wpAny (model prog w) A (compareOp (if neg then .NotEq else .Eq) x y) Q E s := by
  unfold eqD at e
  split at e
  · rename_i d1 d2 e1 e2
    cases e
    obtain ⟨as, a1, a2, a3⟩ := Y6 r 9 a x d1 e1 ha
    obtain ⟨bs, b1, b2, b3⟩ := Y6 r 9 b y d2 e2 hb
    have hu : A.units + min d1.depth d2.depth < cLine := by have := hA.units; lia
    cases neg
    · exact SeqAt.compareEq_reads a1 b1 a2 b2 hu h
    · exact SeqAt.compareNe_reads a1 b1 a2 b2 hu h
  · cases e
theorem Z4 {K : Type} [DecidableEq K] {h : Heap} (k : K) : ∀ {l : List (K × MV)} {kvs : List (K × Value)}, RepKV h l kvs →
    (lookI l k = none ∧ valueAt kvs k = none) ∨ ∃ v x, lookI l k = some v ∧ valueAt kvs k = some x ∧ RepV h v x
  | [], [] => fun _ => .inl ⟨rfl, rfl⟩
  | m :: ms, v :: vs => fun x => by
    simp only [RepKV] at x
    obtain ⟨e, hv, hr⟩ := x
    unfold lookI valueAt
    by_cases q : v.1 = k
    · refine .inr ⟨m.2, v.2, ?_, ?_, hv⟩
      · simp [List.find?_cons, e, q]
      · simp [List.find?_cons, q]
    · have ih := Z4 k hr
      unfold lookI valueAt at ih
      simpa [List.find?_cons, e, q] using ih
  | [], _ :: _ => fun x => by simp [RepKV] at x
  | _ :: _, [] => fun x => by simp [RepKV] at x
theorem A3 {K : Type} [DecidableEq K] {h : Heap} (k : K) : ∀ {l : List (K × MV)} {kvs : List (K × Value)}, RepKV h l kvs → l.any (fun kv => kv.1 = k) = kvs.any (fun kv => kv.1 = k)
  | [], [] => fun _ => rfl
  | m :: ms, v :: vs => fun x => by simp only [RepKV] at x; simp [x.1, A3 k x.2.2]
  | [], _ :: _ => fun x => by simp [RepKV] at x
  | _ :: _, [] => fun x => by simp [RepKV] at x
theorem A1 {K : Type} [DecidableEq K] {h : Heap} (k : K) {v : MV} {x : Value} (hv : RepV h v x) : ∀ {l : List (K × MV)} {kvs : List (K × Value)}, RepKV h l kvs →
    RepKV h (l.map (fun kv => if kv.1 = k then (kv.1, v) else kv)) (kvs.map (fun kv => if kv.1 = k then (kv.1, x) else kv))
  | [], [] => fun _ => trivial
  | m :: ms, u :: vs => fun x => by
    simp only [RepKV] at x
    simp only [List.map_cons, RepKV]
    refine ⟨?_, ?_, A1 k hv x.2.2⟩
    · rw [x.1]; split <;> simp [x.1]
    · rw [x.1]; split
      · exact hv
      · exact x.2.1
  | [], _ :: _ => fun x => by simp [RepKV] at x
  | _ :: _, [] => fun x => by simp [RepKV] at x
theorem Ut {K : Type} {h : Heap} {m : K × MV} {x : K × Value} (e : m.1 = x.1) (hv : RepV h m.2 x.2) : ∀ {l : List (K × MV)} {kvs : List (K × Value)}, RepKV h l kvs → RepKV h (l ++ [m]) (kvs ++ [x])
  | [], [] => fun _ => by simp only [List.nil_append, RepKV]; exact ⟨e, hv, trivial⟩
  | _ :: ms, _ :: vs => fun y => by simp only [RepKV, List.cons_append] at y ⊢; exact ⟨y.1, y.2.1, Ut e hv y.2.2⟩
  | [], _ :: _ => fun x => by simp [RepKV] at x
  | _ :: _, [] => fun x => by simp [RepKV] at x
theorem A0 {K : Type} [DecidableEq K] {h : Heap} (k : K) {v : MV} {x : Value} (hv : RepV h v x) {l : List (K × MV)} {kvs : List (K × Value)} (r : RepKV h l kvs) : RepKV h (putI l k v) (stored kvs k x) := by
  unfold putI stored
  rw [A3 k r]
  split
  · exact A1 k hv r
  · exact Ut (m := (k, v)) (x := (k, x)) rfl hv r
theorem look_some {K : Type} [DecidableEq K] {h : Heap} (k : K) {l : List (K × MV)} {kvs : List (K × Value)} (hr : RepKV h l kvs) : (valueAt kvs k).isSome = (lookI l k).isSome := by
  rcases Z4 k hr with ⟨e1, e2⟩ | ⟨v, x, e1, e2, _⟩ <;> rw [e1, e2] <;> rfl
theorem op_in {neg : Bool} {a b : MV} {x y : Value} {r' : Bool} (ha : RepV s.heap a x) (hb : RepV s.heap b y) (r : RepH prog w μ s.heap) (hA : OkA d A) (e : inM μ a b = some r')
    {Q : Value → Shared → Prop} (h : ∀ s', Still s s' → Q (.bool (if neg then !r' else r')) s') : wpAny (model prog w) A (compareOp (if neg then .NotIn else .In) x y) Q E s := by
  cases b with
  | tup l =>
    obtain ⟨xs, dd, e1, e2, rfl⟩ := anyT_inv e
    obtain ⟨as, a1, a2, a3⟩ := Y6 r 9 _ _ _ e1 hb
    obtain ⟨bs, b1, b2, b3⟩ := Y6 r 9 _ _ _ e2 ha
    have hu : A.units + 1 + min (PyData.depthAll xs) dd.depth < cLine := by have := hA.units; lia
    have a2' : PyData.canLayAll0 xs = true := by simpa [PyData.canLay0] using a2
    cases neg
    · exact SeqAt.in_tuple_reads a1 b1 a2' b2 hu (h s .refl)
    · exact SeqAt.notIn_tuple_reads a1 b1 a2' b2 hu (h s .refl)
  | ref p =>
    have hp : y = .ref p := hb
    replace e : inO μ p a (μ p) = some r' := e
    cases q : μ p with
    | none => rw [q] at e; cases e
    | some mo =>
      rw [q] at e
      cases mo with
      | idict l =>
        cases a with
        | int k =>
          obtain rfl := Option.some.inj e
          obtain ⟨t, rfl⟩ := ha; subst hp
          obtain ⟨kvs, hd, hr, hs⟩ := r p _ q
          have hl := look_some k hr
          cases neg
          · exact wpAny_in_of (intKind_is prog w k t) hs hd.mapOf (by rw [hl]; exact h _ ⟨rfl, rfl, rfl⟩)
          · exact wpAny_notIn_of (intKind_is prog w k t) hs hd.mapOf (by rw [hl]; exact h _ ⟨rfl, rfl, rfl⟩)
        | _ => cases e
      | odict l x => cases e
      | list l =>
        obtain ⟨xs, dd, e1, e2, rfl⟩ := anyL_inv e
        obtain ⟨as, a1, a2, a3⟩ := Y6 r 9 _ _ _ e1 hb
        obtain ⟨bs, b1, b2, b3⟩ := Y6 r 9 _ _ _ e2 ha
        have hu : A.units + 1 + min (PyData.depthAll xs) dd.depth < cLine := by have := hA.units; lia
        have a2' : PyData.canLayAll0 xs = true := by simpa [PyData.canLay0] using a2
        cases neg
        · exact SeqAt.in_list_reads a1 b1 a2' b2 hu (h s .refl)
        · exact SeqAt.notIn_list_reads a1 b1 a2' b2 hu (h s .refl)
  | str y' =>
    cases a with
    | str x' =>
      have e : (if x'.length = 1 then some (y'.cps.toList.contains (x'.cps.toList.headD 0)) else none) = some r' := e
      by_cases hl : x'.length = 1
      · rw [if_pos hl] at e
        obtain rfl := Option.some.inj e
        obtain ⟨t, rfl⟩ := ha; obtain ⟨u, rfl⟩ := hb
        have hx : x' = ⟨#[x'.cps.toList.headD 0]⟩ := by
          obtain ⟨cps⟩ := x'
          obtain ⟨l⟩ := cps
          have hl' : l.length = 1 := hl
          match l, hl' with
          | [c], _ => rfl
        have hc : (!(Builtin.Str.occurrences y' x' 0 y'.length 1).isEmpty) = y'.cps.toList.contains (x'.cps.toList.headD 0) := by
          rw [hx, StrLaws.found_one]
          simp
        cases neg
        · exact P.in_str (by rw [hc]; exact h s .refl)
        · exact P.notIn_str (by rw [hc]; exact h s .refl)
      · rw [if_neg hl] at e; cases e
    | _ => cases e
  | _ => cases e
end
end Mine
end
section
namespace Mine
open PySem PySem.Calls PyProof.Rows
section
variable {prog : Program} {w : World} {fz : List Addr} {μ : MH} {s : Shared} {Q : MQ} {A : Around} {E : Value → Shared → Prop} {d : Nat}
theorem atI_seq {α : Type} {l : List α} {k : Int} {v : α} (e : atI l k = some v) : ∃ j, seqIndex? k l.length = some j ∧ l[j]? = some v ∧ -(l.length : Int) ≤ k ∧ k < l.length := by
  unfold atI at e
  unfold seqIndex?
  split at e
  · rename_i h0
    have hlt : k.toNat < l.length := by
      cases q : l[k.toNat]? with
      | none => rw [q] at e; cases e
      | some _ => exact (List.getElem?_eq_some_iff.mp q).1
    refine ⟨k.toNat, ?_, e, by lia, by lia⟩
    have : ¬ k < 0 := by simp [*]
    simp [this, h0]; lia
  · split at e
    · rename_i h0 h1
      have hlt : (k + l.length).toNat < l.length := by
        cases q : l[(k + l.length).toNat]? with
        | none => rw [q] at e; cases e
        | some _ => exact (List.getElem?_eq_some_iff.mp q).1
      refine ⟨(k + l.length).toNat, ?_, e, by lia, by lia⟩
      have : k < 0 := by lia
      simp [this, h1]; lia
    · cases e
theorem Ax {p : Addr} {l : List MV} {vs : List Value} {k : Int} {t : Tok} {v : MV} {Q : Value → Shared → Prop} (h1 : s.heap.PlainList p vs.toArray) (hv : RepVs s.heap l vs) (hz : l.length ≤ 2 ^ 20) (e : atI l k = some v)
    (h : ∀ z, RepV s.heap v z → Q z s) : wpAny (model prog w) A (getItem (.ref p) (.int k t)) Q E s := by
  have hl := hv.length
  unfold atI at e
  split at e
  · rename_i h0
    obtain ⟨z, hz1, hz2⟩ := hv.get e
    have := (List.getElem?_eq_some_iff.mp hz1).1
    exact wpAny_getItem_list h1.isList h0 (by lia) (by simpa using hz1) (h z hz2)
  · split at e
    · rename_i h0 h2
      obtain ⟨z, hz1, hz2⟩ := hv.get e
      refine wpAny_getItem_list_neg h1.isList (by lia) (by simp; lia) (by lia) (x := z) ?_ (h z hz2)
      simp only [List.size_toArray, hl]; simpa using hz1
    · cases e
theorem op_item {a i v : MV} {x y : Value} {value slice : PySem.Expr} {Q : Value → Shared → Prop} (ha : RepV s.heap a x) (hi : RepV s.heap i y) (r : RepH prog w μ s.heap) (e : idxM μ a i = some v)
    (hs : ∀ o i, subscripted slice false o i = operate [o, i] (getItem o i)) (h : ∀ z s', RepV s.heap v z → Still s s' → Q z s') : wpAny (model prog w) A (subscriptTail value slice x y) Q E s := by
  cases a with
  | tup l =>
    replace e := Kj e; obtain ⟨k, rfl, e⟩ := e
    replace e := Uy e; obtain ⟨hz, e⟩ := e
    obtain ⟨p, vs, n, rfl, h1, hv⟩ := ha; obtain ⟨t, rfl⟩ := hi
    have hl := hv.length
    obtain ⟨j, e1, e2, e3, e4⟩ := atI_seq e
    obtain ⟨z, hz1, hz2⟩ := hv.get e2
    exact tail_any ⟨_, h1, rfl⟩ F.slot_tuple_getitem.lookup (P.getItem_tuple h1 (by lia) (by lia) (by simpa [hl] using e1) (by simpa using hz1) (h z s hz2 .refl)) (hs _ _)
  | str st =>
    replace e := Kj e; obtain ⟨k, rfl, e⟩ := e
    replace e := Uy e; obtain ⟨hz, e⟩ := e
    obtain ⟨c, e', rfl⟩ := Option.map_eq_some_iff.mp e
    obtain ⟨u, rfl⟩ := ha; obtain ⟨t, rfl⟩ := hi
    obtain ⟨j, e1, e2, e3, e4⟩ := atI_seq e'
    have hz' : st.cps.toList.length ≤ 2 ^ 20 := by simpa [Str.length] using hz
    refine tail_any (typeIs_str s st u) F.slot_str_getitem.lookup (P.getItem_str (c := c) ?_ ?_ (h _ _ ⟨_, rfl⟩ ⟨rfl, rfl, rfl⟩)) (hs _ _)
    · simp; lia
    · rw [show st.length = st.cps.toList.length by simp [Str.length], e1]; simpa using e2
  | ref p =>
    obtain rfl : x = .ref p := ha
    replace e : idxO (μ p) i = some v := e
    cases q : μ p with
    | none => rw [q] at e; cases e
    | some mo =>
      rw [q] at e
      cases mo with
      | list l =>
        replace e := Kj e; obtain ⟨k, rfl, e⟩ := e
        replace e := Uy e; obtain ⟨hz, e⟩ := e
        obtain ⟨t, rfl⟩ := hi
        obtain ⟨vs, h1, hv⟩ := r p _ q
        exact tail_any h1.isList.typeIs slot_list_getitem.lookup (Ax h1 hv hz e fun z hz => h z s hz .refl) (hs _ _)
      | idict l =>
        replace e := Kj e; obtain ⟨k, rfl, e⟩ := e
        obtain ⟨t, rfl⟩ := hi
        obtain ⟨kvs, hd, hr, _⟩ := r p _ q
        rcases Z4 k hr with ⟨e1, e2⟩ | ⟨v', z, e1, e2, hz⟩
        · rw [e1] at e; cases e
        · obtain rfl := Option.some.inj (e1.symm.trans e)
          exact tail_any hd.typeIs slot_dict_getitem.lookup (wpAny_getItem_of (intKind_is prog w k t) hd.mapOf e2 (h z _ hz ⟨rfl, rfl, rfl⟩)) (hs _ _)
      | odict l x =>
        replace e := Kj e; obtain ⟨k, rfl, e⟩ := e
        obtain ⟨t, rfl⟩ := hi
        obtain ⟨o, es, en, ep, kvs, h1, h2, hr, h4, h5, h6⟩ := r p _ q
        rcases Z4 k hr with ⟨e1, e2⟩ | ⟨v', z, e1, e2, hz⟩
        · rw [e1] at e; cases e
        · obtain rfl := Option.some.inj (e1.symm.trans e)
          exact tail_any h1.typeIs slot_dict_getitem.lookup (raw_get h1 h6 (pairs_vals h2 en) e2 (h z _ hz ⟨rfl, rfl, rfl⟩)) (hs _ _)
  | _ => cases e
theorem Ub {h : Heap} {l : List MV} {vs : List Value} (hv : RepVs h l vs) : ∀ (js : List Nat), RepVs h (js.filterMap (l[·]?)) (js.filterMap (vs[·]?))
  | [] => trivial
  | j :: js => by
    have ih := Ub hv js
    have hl := hv.length
    simp only [List.filterMap_cons]
    cases q : l[j]? with
    | none =>
      have : vs[j]? = none := by rw [List.getElem?_eq_none_iff] at q ⊢; simp [*]
      rw [this]; exact ih
    | some m =>
      obtain ⟨z, h1, h2⟩ := hv.get q
      rw [h1]; simp only [RepVs]; exact ⟨h2, ih⟩
theorem Vr {m : MV} {v : Value} {o : Option Int} (hr : RepV s.heap m v) (e : partI m = some o) : IsPart v o ∧ ∃ p : Option (Int × Tok), v = partValue p ∧ p.map (·.1) = o := by
  cases m with
  | none => obtain rfl := Option.some.inj e; obtain rfl : v = .none := hr; exact ⟨.none, none, rfl, rfl⟩
  | int i => obtain rfl := Option.some.inj e; obtain ⟨t, rfl⟩ := hr; exact ⟨.int _ _, some (_, t), rfl, rfl⟩
  | _ => cases e
theorem pickN_str (n : Nat) (lo hi st : Option Int) : Builtin.Str.strSliceIndices lo hi (st.getD 1) n = pickN n lo hi st := by
  unfold Builtin.Str.strSliceIndices pickN sliceBounds
  cases lo <;> cases hi <;> cases st <;> rfl
theorem sliceRange_one (a b : Int) : sliceRange a b 1 = (List.range (b - a).toNat).map fun (k : Nat) => (a + k).toNat := by
  show (List.range (if a < b then (b - a + 1 - 1) / 1 else 0).toNat).map (fun (k : Nat) => (a + 1 * (k : Int)).toNat) = _
  rw [Int.ediv_one, Int.add_sub_cancel]
  have e : (if a < b then b - a else 0).toNat = (b - a).toNat := by
    by_cases h : a < b
    · rw [if_pos h]
    · rw [if_neg h, Int.toNat_of_nonpos (Int.sub_nonpos_of_le (Int.not_lt.mp h))]; rfl
  rw [e]
  exact List.map_congr_left fun k _ => by rw [Int.one_mul]
theorem sb_pos {n : Nat} {lo hi st : Option Int} (h : st.getD 1 > 0) : 0 ≤ (sliceBounds lo hi st n).1 ∧ (sliceBounds lo hi st n).2.1 ≤ n := by
  constructor
  · cases lo with
    | none => exact Int.le_of_eq (if_pos h).symm
    | some i => exact Int.le_trans (Int.le_max_left 0 _) (Int.le_of_eq (if_pos h).symm)
  · cases hi with
    | none => exact Int.le_of_eq (if_pos h)
    | some i => exact Int.le_trans (Int.le_of_eq (if_pos h)) (Int.max_le.mpr ⟨Int.natCast_nonneg n, Int.min_le_right ..⟩)
theorem sb_neg {n : Nat} {lo hi st : Option Int} (h : ¬ st.getD 1 > 0) : (sliceBounds lo hi st n).1 ≤ (n : Int) - 1 ∧ -1 ≤ (sliceBounds lo hi st n).2.1 := by
  constructor
  · cases lo with
    | none => exact Int.le_of_eq (if_neg h)
    | some i => exact Int.le_trans (Int.le_of_eq (if_neg h)) (Int.max_le.mpr ⟨Int.sub_le_sub_right (Int.natCast_nonneg n) 1, Int.min_le_right ..⟩)
  · cases hi with
    | none => exact Int.le_of_eq (if_neg h).symm
    | some i => exact Int.le_trans (Int.le_max_left (-1) _) (Int.le_of_eq (if_neg h).symm)
theorem full_at {a b : Int} {n k : Nat} (ha : 0 ≤ a) (hb : b ≤ n) (hl : (b - a).toNat = n) (hk : k < n) : (a + k).toNat = k := by
  obtain ⟨m, rfl⟩ := Int.eq_ofNat_of_zero_le ha
  cases q : b - (m : Int) with
  | ofNat c =>
    rw [q] at hl
    obtain rfl : c = n := hl
    rw [← Int.sub_add_cancel b m, q] at hb
    obtain rfl := Nat.le_zero.mp (Nat.le_of_add_le_add_left (Int.ofNat_le.mp hb : c + m ≤ c + 0))
    exact Nat.zero_add k
  | negSucc c => rw [q] at hl; exact absurd hk (hl ▸ Nat.not_lt_zero _)
theorem O6 {n : Nat} {lo hi st : Option Int} (h1 : st.getD 1 = 1) (hl : (pickN n lo hi st).length = n) : pickN n lo hi st = List.range n := by
  obtain ⟨b1, b2⟩ := sb_pos (n := n) (lo := lo) (hi := hi) (st := st) (by rw [h1]; decide)
  have b3 : (sliceBounds lo hi st n).2.2 = 1 := h1
  unfold pickN at hl ⊢
  rw [b3, sliceRange_one] at hl ⊢
  rw [List.length_map, List.length_range] at hl
  rw [hl]
  exact (List.map_congr_left fun k hk => full_at b1 b2 hl (List.mem_range.mp hk)).trans (List.map_id _)
theorem pickN_le (n : Nat) (lo hi st : Option Int) : (pickN n lo hi st).length ≤ n := sliceRange_length_le _ _ _ _ sb_pos sb_neg
theorem repVs_drop {h : Heap} : ∀ {l : List MV} {vs : List Value} (n : Nat), RepVs h l vs → RepVs h (l.drop n) (vs.drop n)
  | _, _, 0 => fun x => x
  | [], [], n + 1 => fun _ => trivial
  | _ :: _, _ :: _, n + 1 => fun x => by simp only [RepVs] at x; exact repVs_drop n x.2
  | [], _ :: _, _ + 1 => fun x => by simp [RepVs] at x
  | _ :: _, [], _ + 1 => fun x => by simp [RepVs] at x
theorem Zj {α : Type} : ∀ (l : List α), (List.range l.length).filterMap (l[·]?) = l
  | [] => rfl
  | x :: l => by
    have ih := Zj l
    rw [List.length_cons, List.range_succ_eq_map, List.filterMap_cons]
    simp only [List.getElem?_cons_zero, List.filterMap_map]
    congr 1
theorem adjust_any (l u : Option Int) (n : Nat) : Builtin.Slice.sliceAdjust l u 1 (n : Int) = ((sliceBounds l u none n).1, (sliceBounds l u none n).2.1) := by
  have c : ∀ v : Int, (if v < 0 then max (v + n) 0 else min v (n : Int)) = max 0 (min (if v < 0 then v + n else v) n) := fun v => by
    split
    · lia
    · lia
  cases l <;> cases u <;> simp only [Builtin.Slice.sliceAdjust, sliceBounds, Option.getD_none, show ¬ ((1 : Int) < 0) by decide, show (1 : Int) > 0 by decide, if_true, if_false, c]
theorem places_any (a b : Int) : Builtin.Slice.slicePlaces a b 1 = (b - a).toNat := by
  unfold Builtin.Slice.slicePlaces
  rw [if_pos (by decide), Int.ediv_one]
  split
  · simp
  · lia
theorem Vp {sl : Addr} {l u : Option (Int × Tok)} {n : Nat} {Q : Int × Int × Nat → Shared → Prop} (hs : s.heap.IsSlice sl l u none) (h : Q ((sliceBounds (l.map (·.1)) (u.map (·.1)) none n).1, 1, (pickN n (l.map (·.1)) (u.map (·.1)) none).length) s) :
    wpAny (model prog w) A (Builtin.Slice.sliceApplied (.ref sl) (pure (n : Int))) Q E s := by
  have part : ∀ (x : Option (Int × Tok)) {Q : Option Int → Shared → Prop}, Q (x.map (·.1)) s → wpAny (model prog w) A (Builtin.Slice.slicePartIndex (partValue x)) Q E s := fun x Q hq => by
    cases x with
    | none => exact slicePart_none hq
    | some y => exact slicePart_int hq
  obtain ⟨os, hos, hcs, hds⟩ := id hs
  unfold Builtin.Slice.sliceApplied Builtin.Slice.sliceFields
  refine wpAny_bind (wpAny_bind (wpAny_field hos hds (x := partValue l) rfl (wpAny_bind (wpAny_field hos hds (x := partValue u) rfl (wpAny_bind (wpAny_field hos hds (x := partValue none) rfl (wpAny_pure ?_)))))))
  refine wpAny_bind (slicePart_none ?_)
  show wpAny _ _ (if ((1 : Int) == 0) = true then _ else _) _ _ s
  rw [if_neg (by decide)]
  refine wpAny_bind (part l (wpAny_bind (part u (wpAny_bind (wpAny_pure ?_)))))
  show wpAny _ _ (match Builtin.Slice.sliceAdjust (l.map (·.1)) (u.map (·.1)) 1 (n : Int) with | (lo, hi) => pure (lo, (1 : Int), Builtin.Slice.slicePlaces lo hi 1)) _ _ s
  rw [adjust_any]
  refine wpAny_pure ?_
  rw [places_any]
  have : (pickN n (l.map (·.1)) (u.map (·.1)) none).length = ((sliceBounds (l.map (·.1)) (u.map (·.1)) none n).2.1 - (sliceBounds (l.map (·.1)) (u.map (·.1)) none n).1).toNat := by
    unfold pickN
    rw [show (sliceBounds (l.map (·.1)) (u.map (·.1)) none n).2.2 = 1 from rfl, Mine.sliceRange_one, List.length_map, List.length_range]
  rw [this] at h
  exact h
theorem V6 {t sl : Addr} {items : List Value} {l u : Option (Int × Tok)} {Q : Value → Shared → Prop} (ht : IsTup s.heap t items.toArray) (hs : s.heap.IsSlice sl l u none) (hsz : items.length ≤ sizeLine)
    (h1 : pickN items.length (l.map (·.1)) (u.map (·.1)) none = List.range items.length → Q (.ref t) s)
    (h2 : Q (.ref s.heap.objs.size) { s with heap := s.heap.push { cls := .type "tuple", data := .seq ((pickN items.length (l.map (·.1)) (u.map (·.1)) none).filterMap (items[·]?)).toArray } }) : wpAny (model prog w) A (getItem (.ref t) (.ref sl)) Q E s := by
  have hdrop : sizeOk (.seq ((pickN items.length (l.map (·.1)) (u.map (·.1)) none).filterMap (items[·]?)).toArray) := by
    show _ ≤ sizeLine
    rw [List.size_toArray]
    exact Nat.le_trans (Nat.le_trans (List.length_filterMap_le _ _) (pickN_le _ _ _ _)) hsz
  obtain ⟨os, hos, hcs, hds⟩ := id hs
  have hTs : s.TypeIs (.ref sl) "slice" := ⟨os, hos, hcs⟩
  unfold getItem
  try with_reducible refine wpAny_holding ?_
  first | refine wpAny_bind (wpAny_pure ?_) | skip
  refine wpAny_bind (wpAny_sequenceKey ht.typeIs (by decide) ?_)
  refine wpAny_bind (wpAny_callSpecial?_slot (name := Str.ofString "__getitem__") ht.typeIs F.slot_tuple_getitem
    (wpAny_call_entry F.slot_tuple_getitem ht.typeIs F.entry_tuple_getitem ?_ (args_tuple_getitem _ _)))
  show wpAny _ _ (Builtin.Tuple.tupleItemsOf (.ref t) >>= _) _ _ s
  refine wpAny_bind (tupleItemsOf_ ht ?_)
  refine wpAny_bind (wpAny_typeOf hTs ?_)
  rw [if_pos (by decide)]
  refine wpAny_bind (Vp (n := items.length) hs ?_)
  generalize hlo : (sliceBounds (l.map (·.1)) (u.map (·.1)) none items.length).1 = lo
  show wpAny _ _ (if (lo == 0 && (1 : Int) == 1 && (pickN items.length (l.map (·.1)) (u.map (·.1)) none).length == items.toArray.size) = true then _ else _) _ _ s
  split
  · rename_i hc
    simp only [Bool.and_eq_true, beq_iff_eq, List.size_toArray] at hc
    have := h1 (O6 rfl hc.2)
    refine wpAny_bind ?_
    unfold Builtin.Tuple.tupleIsExact
    refine wpAny_bind (wpAny_typeOf ht.typeIs (wpAny_pure ?_))
    rw [if_pos (by decide)]
    first
      | exact wpAny_bind (wpAny_rule (wpAny_pure ⟨_, rfl, wpAny_pure this⟩))
      | exact wpAny_bind (wpAny_rule (wpAny_bind (wpAny_pure ⟨_, rfl, wpAny_pure this⟩)))
  · have hp : ((List.range (pickN items.length (l.map (·.1)) (u.map (·.1)) none).length).filterMap fun (k : Nat) => items.toArray[(lo + (k : Int) * 1).toNat]?).toArray = ((pickN items.length (l.map (·.1)) (u.map (·.1)) none).filterMap (items[·]?)).toArray := by
      congr 1
      unfold pickN
      rw [show (sliceBounds (l.map (·.1)) (u.map (·.1)) none items.length).2.2 = 1 from rfl, Mine.sliceRange_one, List.length_map, List.length_range, List.filterMap_map, hlo]
      congr 1
      funext k
      simp [Function.comp, Int.mul_one]
    rw [hp]
    first
      | exact wpAny_bind (m := Builtin.Tuple.tupleExact _) (wpAny_newObj_type (wpAny_pure ⟨_, rfl, wpAny_pure h2⟩) hdrop)
      | exact wpAny_bind (m := Builtin.Tuple.tupleExact _) (wpAny_newObj_type (wpAny_bind (wpAny_pure (wpAny_pure ⟨_, rfl, wpAny_pure h2⟩))) hdrop)
      | exact wpAny_bind (wpAny_bind (m := Builtin.Tuple.tupleExact _) (wpAny_newObj_type (wpAny_pure (wpAny_pure ⟨_, rfl, wpAny_pure h2⟩)) hdrop))
      | exact wpAny_bind (wpAny_bind (m := Builtin.Tuple.tupleExact _) (wpAny_newObj_type (wpAny_pure ⟨_, rfl, wpAny_pure h2⟩) hdrop))
theorem op_slice {a lo hi st : MV} {x vl vh vs : Value} {value : PySem.Expr} {l u t : Option PySem.Expr} {p : Pos} {sl : Addr} {μ₀ : MH} {s₀ : Shared} (ha : RepV s.heap a x) (hlo : RepV s.heap lo vl) (hhi : RepV s.heap hi vh) (hst : RepV s.heap st vs)
    (r : RepH prog w μ s.heap) (f : FzIn fz μ) (h : sliceM fz a lo hi st Q μ) (hs : s.heap.get? sl = some { cls := .type "slice", data := .fields #[vl, vh, vs] }) :
    wpAny (model prog w) A (subscriptTail value (.Slice l u t p) x (.ref sl)) (PostV prog w fz μ s Q) E s := by
  obtain ⟨ol, oh, os, e1, e2, e3, e0, h⟩ := h
  obtain ⟨pl, ql, rfl, rfl⟩ := Vr hlo e1
  obtain ⟨ph, qh, rfl, rfl⟩ := Vr hhi e2
  obtain ⟨ps, qs, rfl, rfl⟩ := Vr hst e3
  have hsub : ∀ o, ∃ ops, subscripted (.Slice l u t p) false o (.ref sl) = operate ops (getItem o (.ref sl)) := fun o => by
    cases t
    · exact ⟨_, rfl⟩
    · exact ⟨_, rfl⟩
  cases a with
  | tup x' =>
    obtain ⟨q3, hz, h⟩ := h
    obtain ⟨q, ws, n, rfl, ht, hv⟩ := ha
    have hl := hv.length
    obtain ⟨ops, hop⟩ := hsub (.ref q)
    have es : qs = none := by simpa using q3
    subst es
    refine tail_any ⟨_, ht, rfl⟩ F.slot_tuple_getitem.lookup (V6 (l := ql) (u := qh) (items := ws) ⟨_, ht, rfl, _, rfl⟩ ⟨_, hs, rfl, rfl⟩ (by have := Xq hz; simp [*]) (fun hf => ?_) ?_) hop
    · have : pick x' (ql.map (·.1)) (qh.map (·.1)) none = x' := by unfold pick; rw [← hl, hf, hl, Zj]
      refine Xp (mv := .tup x') (by simpa [this] using h) r (by simp only [RepV]; exact ⟨q, ws, n, rfl, ht, hv⟩) rfl rfl rfl
    · refine Yo h r (fun b x e => Heap.get?_push_of_some _ e) (Kf ?_)
      unfold pick
      rw [← hl]
      exact Ub hv _
  | str x' =>
    obtain ⟨hz, h⟩ := h
    obtain ⟨tk, rfl⟩ := ha
    obtain ⟨ops, hop⟩ := hsub (.str x' tk)
    have h0 : ((qs.map (·.1)).getD 1 == 0) = false := by
      cases q : qs with
      | none => rfl
      | some c => rw [q] at e0; simp at e0 ⊢; exact e0
    refine tail_any (typeIs_str s x' tk) F.slot_str_getitem.lookup (wpAny_getItem_str_slice (l := ql) (u := qh) (st := qs) ⟨_, hs, rfl, rfl⟩ h0 ?_) hop
    have hp : slicePicked x' ql qh qs = pickN x'.length (ql.map (·.1)) (qh.map (·.1)) (qs.map (·.1)) := pickN_str _ _ _ _
    have hlen : x'.length = x'.cps.toList.length := by simp [Str.length]
    unfold sliceMade
    split
    · rename_i hc
      simp only [Bool.and_eq_true, beq_iff_eq] at hc
      have hfull := O6 (n := x'.length) (lo := ql.map (·.1)) (hi := qh.map (·.1)) (st := qs.map (·.1)) hc.1 (by rw [← hp]; exact hc.2)
      have hx : (⟨(pick x'.cps.toList (ql.map (·.1)) (qh.map (·.1)) (qs.map (·.1))).toArray⟩ : Str) = x' := by
        unfold pick
        rw [← hlen, hfull, hlen, Zj]
      rw [hx] at h
      exact Xp h r (by simp only [RepV]; exact ⟨_, rfl⟩) rfl rfl rfl
    · have hx : ((slicePicked x' ql qh qs).filterMap (x'.cps[·]?)).toArray = (pick x'.cps.toList (ql.map (·.1)) (qh.map (·.1)) (qs.map (·.1))).toArray := by
        unfold pick
        rw [hp, hlen]
        congr 2
        funext i
        simp
      rw [hx]
      refine ⟨?_, Xp h r (by simp only [RepV]; exact ⟨_, rfl⟩) rfl rfl rfl⟩
      have h1 : (pick x'.cps.toList (ql.map (·.1)) (qh.map (·.1)) (qs.map (·.1))).length ≤ x'.length := by
        unfold pick
        rw [← hlen]
        exact Nat.le_trans (List.length_filterMap_le _ _) (pickN_le _ _ _ _)
      have h2 := Xq hz
      simp only [Str.length, List.size_toArray] at h1 h2 ⊢
      lia
  | ref q =>
    obtain ⟨y, hy, hz, h⟩ := h
    obtain rfl : x = .ref q := ha
    obtain ⟨ops, hop⟩ := hsub (.ref q)
    obtain ⟨vs', h1, hv, _⟩ := Zp r hy
    have hl := hv.length
    refine tail_any h1.isList.typeIs slot_list_getitem.lookup (wpAny_getItem_list_slice h1.isList (sl := sl) ⟨_, hs, rfl, rfl⟩ pl ph ps e0 ?_ (by have := Xq hz; simp; simp [*])) hop
    have hx : slicePick vs'.toArray (ql.map (·.1)) (qh.map (·.1)) (qs.map (·.1)) = ((pickN y.length (ql.map (·.1)) (qh.map (·.1)) (qs.map (·.1))).filterMap (vs'[·]?)).toArray := by
      unfold slicePick pickN
      simp only [List.size_toArray, hl]
      congr 2
      funext i
      simp
    rw [hx]
    exact Zs h r f (Yx (Ub hv _))
  | _ => exact False.elim h
end
end Mine
end
section
namespace Mine
open PySem PySem.Calls PyProof.Rows PySem.W
section
variable {prog : Program} {w : World} {fz : List Addr} {μ : MH} {s : Shared} {Q : MQ} {A : Around} {E : Value → Shared → Prop} {d : Nat}
theorem Js {h : Heap} : ∀ {l : List MV} {vs : List Value}, vs.length = l.length → (∀ (j : Nat) (v : Value), vs[j]? = some v → ∃ m, l[j]? = some m ∧ RepV h m v) → RepVs h l vs
  | [], [] => fun _ _ => trivial
  | m :: l, v :: vs => fun hl hg => by
    simp only [RepVs]
    obtain ⟨m', h1, h2⟩ := hg 0 v rfl
    simp at h1; subst h1
    exact ⟨h2, Js (by simpa using hl) fun j u e => by simpa using hg (j + 1) u (by simpa using e)⟩
  | [], _ :: _ => fun hl _ => by simp at hl
  | _ :: _, [] => fun hl _ => by simp at hl
theorem Z5 {K : Type} {h : Heap} : ∀ {l : List (K × MV)} {kvs : List (K × Value)} {i : Nat} {kv : K × Value}, RepKV h l kvs → kvs[i]? = some kv → ∃ m, l[i]? = some (kv.1, m) ∧ RepV h m kv.2
  | [], [], i, kv => fun _ e => by simp at e
  | m :: ms, y :: ys, 0, kv => fun r e => by
    simp only [RepKV] at r; simp at e; subst e
    exact ⟨m.2, by simp [← r.1], r.2.1⟩
  | m :: ms, y :: ys, i + 1, kv => fun r e => by simp only [RepKV] at r; exact Z5 (i := i) r.2.2 (by simpa using e)
  | [], _ :: _, _, _ => fun r _ => by simp [RepKV] at r
  | _ :: _, [], _, _ => fun r _ => by simp [RepKV] at r
structure DSrc (prog : Program) (w : World) (s : Shared) (x : Value) (l : List MV) (da : Addr) : Prop where
  ex : ∃ T r n P OK, x = .ref r ∧ KdlSrc prog w T r da n P OK ∧ OK s.heap ∧ n = l.length ∧ ∀ i v, P i v → ∀ h', KeepsT s.heap h' → ∃ m, l[i]? = some m ∧ RepV h' m v
inductive DsrcIs (prog : Program) (w : World) (s : Shared) (x : Value) (l : List MV) : Prop
  | seq (a : Addr) (vs : List Value) (n : Nat) (hx : x = .ref a) (ho : s.heap.get? a = some { cls := .type "list", data := .seq (List.toArray vs) n } ∨ s.heap.get? a = some { cls := .type "tuple", data := .seq (List.toArray vs) n }) (hr : RepVs s.heap l vs)
  | str (st : Str) (t : Tok) (hx : x = .str st t)
  | dict (da : Addr) (hd : DSrc prog w s x l da)
theorem dsrc_dict {K : Type} [DecidableEq K] (knd : PySem.KeyKind prog w K) (enc : K → MV) (he : ∀ k u h', knd.is k u = true → RepV h' (enc k) u) (a : Addr) (kv : List (K × MV)) (kvs : List (K × Value)) (hD : s.heap.DictOf knd a kvs) (hk : RepKV s.heap kv kvs) (hs : (a == sysModules) = false) : DSrc prog w s (.ref a) (kv.map fun p => enc p.1) a := by
  obtain ⟨ep, hat⟩ := hD.dictAt
  refine ⟨_, a, _, _, _, rfl, kdl_dict (knd := knd) (kvs := kvs) (ep := ep) hs, hat, by rw [List.length_map, hk.length], ?_⟩
  rintro i u ⟨k, y, h1, h2⟩ h' kt
  obtain ⟨m, h3, h4⟩ := Z5 hk h1
  exact ⟨enc k, by rw [List.getElem?_map, h3]; rfl, he k u h' h2⟩
theorem dsrc_keys {K : Type} [DecidableEq K] (knd : PySem.KeyKind prog w K) (enc : K → MV) (he : ∀ k u h', knd.is k u = true → RepV h' (enc k) u) (a : Addr) (kv : List (K × MV)) (kvs : List (K × Value)) (hD : s.heap.DictOf knd a kvs) (hk : RepKV s.heap kv kvs) (r : Addr) (hr : KeysView s.heap r a) : DSrc prog w s (.ref r) (kv.map fun p => enc p.1) a := by
  obtain ⟨ep, hat⟩ := hD.dictAt
  refine ⟨_, r, _, _, _, rfl, kdl_keys (knd := knd) (kvs := kvs) (ep := ep), ⟨hr, hat⟩, by rw [List.length_map, hk.length], ?_⟩
  rintro i u ⟨k, y, h1, h2⟩ h' kt
  obtain ⟨m, h3, h4⟩ := Z5 hk h1
  exact ⟨enc k, by rw [List.getElem?_map, h3]; rfl, he k u h' h2⟩
theorem dsrc_vals {K : Type} [DecidableEq K] (knd : PySem.KeyKind prog w K) (a : Addr) (kv : List (K × MV)) (kvs : List (K × Value)) (hD : s.heap.DictOf knd a kvs) (hk : RepKV s.heap kv kvs) (r : Addr) (hr : s.heap.IsValuesView r a) : DSrc prog w s (.ref r) (kv.map fun p => p.2) a := by
  obtain ⟨ep, hat⟩ := hD.dictAt
  refine ⟨_, r, _, _, _, rfl, kdl_values (knd := knd) (kvs := kvs) (ep := ep), ⟨hr, hat⟩, by rw [List.length_map, hk.length], ?_⟩
  rintro i u ⟨k, h1⟩ h' kt
  obtain ⟨m, h3, h4⟩ := Z5 hk h1
  exact ⟨m, by rw [List.getElem?_map, h3]; rfl, h4.keepT kt⟩
theorem encI (k : Int) (u : Value) (h' : Heap) (hi : (intKind prog w).is k u = true) : RepV h' (.int k) u := Value.isInt_shape hi
theorem kdl_raw {d : Addr} {es : Array DictEntry} {ep : Nat} {o : Obj} (lo : (d == sysModules) = false) : KdlSrc prog w "dict" d d es.size (fun i v => ∃ e, es[i]? = some e ∧ v = e.key) (fun h => RawD h d es ep o) where
  type := fun _ hm => hm.typeIs
  there := fun _ hm => ⟨Heap.lt_size hm.here, Heap.lt_size hm.here⟩
  keep := fun _ _ hm hk => hm.keeps fun o e => hk d (.inl rfl) o e
  notList := by decide
  notTuple := by decide
  hint := fun _ _ _ _ hm hq => kdl_hint_dict hm.typeIs hq
  iter := fun _ _ hh hm => ⟨_, _, (fun _ _ hq => raw_iter lo hm hq), raw_walk hh _ d (Nat.ne_of_lt (Heap.lt_size hm.here)) es ep o, ⟨⟨_, Heap.get?_push_size _ rfl, rfl, rfl⟩, hm.keeps fun o e => Heap.get?_push_of_some _ e⟩⟩
theorem odd_key {h h' : Heap} {es : Array DictEntry} {en e : DictEntry} {kvs : List (Int × Value)} {l : List (Int × MV)} {k : MV} {i : Nat} (h2 : Pairs (intKind prog w) es.toList kvs) (hr : RepKV h l kvs) (h4 : RepV h k en.key) (kt : KeepsT h h') (he : (es.push en)[i]? = some e) : ∃ m, ((l.map fun kv => MV.int kv.1) ++ [k])[i]? = some m ∧ RepV h' m e.key := by
  have hl : es.size = l.length := by rw [← hr.length, ← h2.length, Array.length_toList]
  by_cases q : i < es.size
  · rw [Array.getElem?_push_lt q] at he
    obtain ⟨kv, hkv⟩ : ∃ kv, kvs[i]? = some kv := ⟨kvs[i]'(by rw [hr.length, ← hl]; exact q), by simp⟩
    obtain ⟨m, h3, _⟩ := Z5 hr hkv
    refine ⟨.int kv.1, ?_, Value.isInt_shape (h2.get? (e := e) (k := kv.1) (v := kv.2) (by rw [Array.getElem?_toList, Array.getElem?_eq_getElem q]; exact he) hkv).1⟩
    rw [List.getElem?_append_left (by rw [List.length_map, ← hl]; exact q), List.getElem?_map, h3]; rfl
  · have hi : i = es.size := by
      have := (Array.getElem?_eq_some_iff.mp he).1
      rw [Array.size_push] at this; (first|lia|omega)
    subst hi
    rw [Array.getElem?_push_size] at he
    obtain rfl := Option.some.inj he
    exact ⟨k, by rw [List.getElem?_append_right (by rw [List.length_map, hl]; exact Nat.le_refl _), List.length_map, hl, Nat.sub_self]; rfl, h4.keepT kt⟩
theorem C0 {v : MV} {x : Value} {l : List MV} (r : RepH prog w μ s.heap) (hv : RepV s.heap v x) (e : items μ v = some l) : DsrcIs prog w s x l := by
  cases v with
  | tup l' =>
    obtain rfl := Option.some.inj e
    obtain ⟨a, vs, n, rfl, h1, h2⟩ := hv
    exact .seq a vs n rfl (.inr h1) h2
  | str st =>
    obtain ⟨t, rfl⟩ := hv
    exact .str st t rfl
  | ref a =>
    obtain rfl : x = .ref a := hv
    replace e : itemsO (μ a) = some l := e
    cases q : μ a with
    | none => rw [q] at e; cases e
    | some mo =>
      rw [q] at e
      cases mo with
      | list l' => obtain rfl := Option.some.inj e; obtain ⟨vs, ⟨n, h1⟩, h2⟩ := r a _ q; exact .seq a vs n rfl (.inl h1) h2
      | idict l' => obtain rfl := Option.some.inj e; obtain ⟨kvs, h1, h2, h3⟩ := r a _ q; exact .dict a (dsrc_dict _ _ encI a l' kvs h1 h2 h3)
      | odict l' x =>
        obtain rfl := Option.some.inj e; obtain ⟨o, es, en, ep, kvs, h1, h2, hr, h4, h5, h6⟩ := r a _ q
        exact .dict a ⟨_, a, _, _, _, rfl, kdl_raw h5, h1, by rw [Array.size_push, List.length_append, List.length_map, ← hr.length, ← h2.length, Array.length_toList]; rfl, fun i v hp h' kt => by obtain ⟨e', he', rfl⟩ := hp; exact odd_key h2 hr h4 kt he'⟩
  | keys a =>
    obtain ⟨p, rfl, hp⟩ := hv
    replace e : keysO (μ a) = some l := e
    cases q : μ a with
    | none => rw [q] at e; cases e
    | some mo =>
      rw [q] at e
      cases mo with
      | list l' => cases e
      | idict l' => obtain rfl := Option.some.inj e; obtain ⟨kvs, h1, h2, h3⟩ := r a _ q; exact .dict a (dsrc_keys _ _ encI a l' kvs h1 h2 p hp)
      | odict l' x => cases e
  | vals a =>
    obtain ⟨p, rfl, hp⟩ := hv
    replace e : valsO (μ a) = some l := e
    cases q : μ a with
    | none => rw [q] at e; cases e
    | some mo =>
      rw [q] at e
      cases mo with
      | list l' => cases e
      | idict l' => obtain rfl := Option.some.inj e; obtain ⟨kvs, h1, h2, h3⟩ := r a _ q; exact .dict a (dsrc_vals _ a l' kvs h1 h2 p hp)
      | odict l' x => cases e
  | _ => cases e
theorem O8 {v : MV} {x : Value} {l : List MV} {R : List Value → Shared → Prop} (r : RepH prog w μ s.heap) (hv : RepV s.heap v x) (e : items μ v = some l) (hn : fits l.length) (hA : A.handled = none) (hns : ∀ st, v ≠ .str st)
    (h : ∀ vs h' tk, (∀ b o, s.heap.get? b = some o → h'.get? b = some o) → RepVs h' l vs → R vs { s with heap := h', toks := tk }) : wpAny (model prog w) A (collect x) R E s := by
  rcases C0 r hv e with ⟨a, vs, n, rfl, ho, hr⟩ | ⟨st, t, rfl⟩ | ⟨da, ⟨T, p, n, P, OK, rfl, K, ok, rfl, hP⟩⟩
  · have hl := hr.length
    rcases ho with ho | ho
    · exact wpAny_collect_seq a (.inl rfl) ho rfl rfl (fun h' k => h vs h' s.toks k (hr.keepT (.of_all k))) (by have := Xq hn; simp; (first|lia|omega))
    · exact wpAny_collect_seq a (.inr rfl) ho rfl rfl (fun h' k => h vs h' s.toks k (hr.keepT (.of_all k))) (by have := Xq hn; simp; (first|lia|omega))
  · cases v <;> simp [RepV] at hv
    exact absurd rfl (hns _)
  · refine kdu_collect K hA ok (Xq hn) fun h' tk acc k ha => h _ h' tk k (Js (by rw [Array.length_toList]; exact ha.1) fun j u hj => ?_)
    exact hP j u (ha.2 j u (by rw [← Array.getElem?_toList]; exact hj)) h' (.of_all k)
theorem Uh {h : Heap} : ∀ {l : List MV} {vs : List Value} {ns : List Int}, RepVs h l vs → intsOf l = some ns → IntsAre vs ns
  | [], [], ns => fun _ e => by simp [intsOf] at e; subst e; exact .nil
  | m :: l, v :: vs, ns => fun r e => by
    simp only [RepVs] at r
    unfold intsOf at e
    rw [List.mapM_cons] at e
    simp only [Option.bind_eq_bind, Option.bind_eq_some_iff, Option.pure_def, Option.some.injEq] at e
    obtain ⟨i, e1, ns', e2, rfl⟩ := e
    cases m <;> simp at e1
    subst e1
    simp only [RepV] at r
    obtain ⟨⟨t, rfl⟩, hr⟩ := r
    exact .cons _ t (Uh hr e2)
  | [], _ :: _, _ => fun r _ => by simp [RepVs] at r
  | _ :: _, [], _ => fun r _ => by simp [RepVs] at r
theorem O3 {h : Heap} : ∀ {vs : List Value} {ns : List Int}, IntsAre vs ns → RepVs h (ns.map .int) vs
  | _, _, .nil => trivial
  | _, _, .cons n t r => by simp only [List.map_cons, RepVs, RepV]; exact ⟨⟨t, rfl⟩, O3 r⟩
theorem Pp {l : List MV} {ns : List Int} (e : intsOf l = some ns) : ns.length = l.length := by
  unfold intsOf at e
  induction l generalizing ns with
  | nil => simp at e; subst e; rfl
  | cons m l ih =>
    rw [List.mapM_cons] at e
    simp only [Option.bind_eq_bind, Option.bind_eq_some_iff, Option.pure_def, Option.some.injEq] at e
    obtain ⟨i, e1, ns', e2, rfl⟩ := e
    simp [ih e2]
theorem Jr {ns ns' : List Int} (hp : ns'.Perm ns) (hs : ns'.Pairwise (· ≤ ·)) : ns' = sortI ns := by
  have h1 : (sortI ns).Perm ns := List.mergeSort_perm _ _
  have h2 : (sortI ns).Pairwise (fun a b => decide (a ≤ b) = true) := List.pairwise_mergeSort (by intro a b c; simp; (first|lia|omega)) (by intro a b; simp; (first|lia|omega)) ns
  refine List.Perm.eq_of_pairwise (le := fun a b => a ≤ b) ?_ hs (h2.imp (by intro a b h; simpa using h)) (hp.trans h1.symm)
  intro a b _ _ h3 h4; (first|lia|omega)
theorem U2 {ns : List Int} (h : ns.Pairwise (· ≥ ·)) : ns.reverse.Pairwise (· ≤ ·) := by
  rw [List.pairwise_reverse]; exact h
theorem A6 {b : Bool} {v : MV} {x : Value} {l : List MV} {ns : List Int} (r : RepH prog w μ s.heap) (f : FzIn fz μ) (hv : RepV s.heap v x) (e : items μ v = some l) (hi : intsOf l = some ns) (hn : l.length < 64) (hA : A.handled = none) (hns : ∀ st, v ≠ .str st)
    (h : allocM fz μ (.list ((if b then (sortI ns).reverse else sortI ns).map .int)) fun c μ' => Q (.ref c) μ') :
    (b = false → wpAny (model prog w) A (call (.builtin "sorted") [x]) (PostV prog w fz μ s Q) E s) ∧ wpAny (model prog w) A (call (.builtin "sorted") [x] [(Str.ofString "reverse", .bool b)]) (PostV prog w fz μ s Q) E s := by
  have hf : fits l.length := Nat.le_trans (Nat.le_of_lt hn) (by decide)
  have fin : ∀ (vs : List Value) (h' : Heap) (tk : Nat) (out : Array Value) (ns' : List Int), (∀ b o, s.heap.get? b = some o → h'.get? b = some o) → IntsAre out.toList ns' → ns' = (if b then (sortI ns).reverse else sortI ns) →
      PostV prog w fz μ s Q (.ref h'.objs.size) { s with heap := sortedHeap (h'.push (seqObj "list" vs.toArray 0)) h'.objs.size vs out, toks := tk } := by
    intro vs h' tk out ns' k hI hns'
    have hnew : s.heap.get? h'.objs.size = none := by
      cases q : s.heap.get? h'.objs.size with
      | none => rfl
      | some o => exact absurd (Heap.lt_size (k _ _ q)) (Nat.lt_irrefl _)
    have k2 : ∀ b o, s.heap.get? b = some o → (sortedHeap (h'.push (seqObj "list" vs.toArray 0)) h'.objs.size vs out).get? b = some o := fun b o e => by
      have e' := k b o e
      have hlt := Heap.lt_size e'
      rw [sortedHeap_old (Nat.ne_of_lt hlt) (by rw [Heap.size_push]; exact Nat.lt_succ_of_lt hlt)]
      exact Heap.get?_push_of_some _ e'
    refine Z7 h r f hnew k2 ?_
    obtain ⟨ep, he⟩ := sortedHeap_at (h := h'.push (seqObj "list" vs.toArray 0)) (a := h'.objs.size) (vs := vs) (n := 0) (out := out) (Heap.get?_push_size _ rfl)
    refine ⟨out.toList, ⟨ep, by simpa [seqObj] using he⟩, ?_⟩
    rw [← hns']
    exact O3 hI
  refine ⟨fun hb => ?_, ?_⟩
  · subst hb
    refine Calls.call_function_entry kind_sorted plain_sorted entry_sorted (args_sorted1 _) ?_
    unfold Builtin.«sorted»
    refine wpAny_bind (m := checkCount "sorted" 1 1 _) (wpAny_pure ?_)
    refine wpAny_bind (O8 (A := A.in1) r hv e hf hA hns fun vs h' tk k hr => ?_)
    have hl := hr.length
    refine wpAny_bind (wpAny_newList ?_ (by have := Xq hf; (first|lia|omega)))
    have hoL : (h'.push (seqObj "list" vs.toArray 0)).get? h'.objs.size = some (seqObj "list" vs.toArray 0) := Heap.get?_push_size _ rfl
    refine wpAny_bind (wpAny_holding (wpAny_call_entry slot_list_sort ⟨_, hoL, rfl⟩ entry_list_sort (list_sort_tree hoL (Uh hr hi) (by (first|lia|omega)) fun out ns' a1 a2 a3 => ⟨_, rfl, ?_⟩) (args_list_sort _)))
    exact wpAny_pure ⟨_, rfl, fin vs h' tk out ns' k a1 (Jr a2 a3)⟩
  · refine call_function_entry_kw kind_sorted plain_sorted entry_sorted (args_sorted_rev _ _) ?_
    unfold Builtin.«sorted»
    refine wpAny_bind (m := checkCount "sorted" 1 1 _) (wpAny_pure ?_)
    refine wpAny_bind (O8 (A := A.in1) r hv e hf hA hns fun vs h' tk k hr => ?_)
    have hl := hr.length
    refine wpAny_bind (wpAny_newList ?_ (by have := Xq hf; (first|lia|omega)))
    have hoL : (h'.push (seqObj "list" vs.toArray 0)).get? h'.objs.size = some (seqObj "list" vs.toArray 0) := Heap.get?_push_size _ rfl
    refine wpAny_bind (wpAny_holding (wpAny_call_entry_kw slot_list_sort ⟨_, hoL, rfl⟩ entry_list_sort (list_sort_tree_rev hoL (Uh hr hi) (by (first|lia|omega)) fun out ns' a1 a2 a3 => ⟨_, rfl, ?_⟩) (args_list_sort_rev _ _)))
    refine wpAny_pure ⟨_, rfl, fin vs h' tk out ns' k a1 ?_⟩
    cases b
    · exact Jr a2 a3
    · have := Jr ((List.reverse_perm ns').trans a2) (U2 a3)
      simp only [if_true]
      rw [← this, List.reverse_reverse]
end
end Mine
end
section
set_option maxRecDepth 100000
namespace Mine
open PySem PySem.Calls PyProof.Rows PySem.W
theorem O9 : typeLookup (.type "list") "keys" = pure none := by rw [typeLookup_type, builtinLookup_eq_fast]; kernel_rfl
theorem J5 : entryFor table "dict.update.loop" = some Builtin.«dict.update.loop» := entryFor_of_tree (by kernel_rfl)
theorem Yf : plainId "dict.update.loop" = true := by decide +kernel
section
variable {prog : Program} {w : World} {A : Around} {E : Value → Shared → Prop}
theorem Km {s : Shared} {a : Addr} {xs : Array Value} {k : Nat} {Q : Option Value → Shared → Prop} (hx : s.heap.get? a = some { cls := .type "list", data := .seq xs k }) (hA : A.handled = none)
    (h : ∀ h' tk, (∀ b o, s.heap.get? b = some o → h'.get? b = some o) → Q none { s with heap := h', toks := tk }) :
    wpAny (model prog w) A (getAttr? (.ref a) "keys") Q E s := by
  obtain ⟨hp, g, d, tk, os⟩ := s
  have hT : ∀ tk', (⟨hp, g, d, tk', os⟩ : Shared).TypeIs (.ref a) "list" := fun _ => ⟨_, hx, rfl⟩
  have f1 := sub_AttributeError
  have f3 := F.slot_list_getattribute.lookup
  have f4 := F.slot_list_getattribute.bind (.ref a)
  have f5 := am_list_getattr_none
  unfold getAttr? getAttrBy? getAttrBy
  repeat (any_goals (first | assumption | exact hT _ | ((with_reducible show wpAny _ _ (call (Value.builtin "list.__getattribute__") _ _) _ _ _); refine call_meets F.slot_list_getattribute (hT _) am_entry_list_getattribute (F.args_list_getattribute_2 _ _) (meets_getattribute_miss_list a xs k #[] "keys" _ O9 (by decide +kernel) (by decide +kernel)) ⟨hx, hA, fun h₁ tk₁ e₁ hx₁ => ?_⟩) | wp_step))
  obtain ⟨t', u', he⟩ := hx₁.there
  have hTe : ∀ tk', (⟨h₁, g, d, tk', os⟩ : Shared).TypeIs (.ref e₁) "AttributeError" := fun _ => ⟨_, he, rfl⟩
  show wpAny _ _ (getattributeRaised _ _ _ _ _ _ _) _ _ _
  unfold getattributeRaised
  refine wpAny_bind (wpAny_isInstance (hTe _) f1 ?_)
  simp only [if_true]
  show wpAny _ _ (hookBehind _ _ >>= _) _ _ _
  refine wpAny_bind (wpAny_of_eq (show hookBehind (.type "list") none = pure none from f5) ?_)
  show wpAny _ _ (throw _) _ _ _
  refine wpAny_throw ?_
  show wpAny _ _ (isInstance _ _ >>= _) _ _ _
  refine wpAny_bind (wpAny_isInstance (hTe _) f1 ?_)
  simp only [if_true]
  exact wpAny_pure (h h₁ _ hx₁.keeps)
end
end Mine
end
section
set_option maxRecDepth 100000
namespace Mine
open PySem PySem.Calls PyProof.Rows PySem.W
section
variable {prog : Program} {w : World} {A : Around} {E : Value → Shared → Prop} {fz : List Addr} {μ : MH} {s : Shared} {Q : MQ} {d : Nat}
noncomputable def PairAt (h : Heap) (x : Value) (kv : Int × Value) : Prop := ∃ a t n, x = .ref a ∧ h.get? a = some { cls := .type "tuple", data := .seq #[.int kv.1 t, kv.2] n }
noncomputable def storedAll (acc ps : List (Int × Value)) : List (Int × Value) := ps.foldl (fun d kv => stored d kv.1 kv.2) acc
theorem Vo {kvs : List (Int × Value)} {k : Int} {v : Value} : (stored kvs k v).length ≤ kvs.length + 1 := by
  unfold stored; split <;> simp
theorem Na {R : Result → Shared → Prop} {I l D : Addr} {items : Array Value} (hh : A.handled = none) (hDI : D ≠ I) (hDl : D ≠ l) (hIl : l ≠ I) :
    ∀ (ps : List (Int × Value)) (i : Nat) (acc : List (Int × Value)) (s : Shared), items.size = i + ps.length → s.heap.IsListIter I l i → s.heap.IsList l items → (∀ (j : Nat) (kv : Int × Value), ps[j]? = some kv → ∃ x, items[i + j]? = some x ∧ PairAt s.heap x kv) →
      s.heap.DictOf (intKind prog w) D acc → acc.length + ps.length ≤ sizeLine →
      (∀ h' tk, h'.DictOf (intKind prog w) D (storedAll acc ps) → (∀ b o, b ≠ D → b ≠ I → s.heap.get? b = some o → h'.get? b = some o) → R (.ok (.ret .none)) { s with heap := h', toks := tk }) →
      codeAny (model prog w) A (.builtin "dict.update.loop" ⟨[.ref D, .ref I, .int i 0, .none], []⟩) R s
  | [], i, acc, s, hn, hit, hl, hp, hd, hsz, hR => by
    refine codeAny_builtin J5 ?_
    rw [Around.under_plainId Yf _]
    show wpAny _ A.in1 (pyNext (.ref I) >>= _) _ _ s
    have hnone : items[i]? = none := by simp at hn; simp [hn]
    refine wpAny_bind (wpAny_pyNext_list_end (A := A.in1) hh hit hl hnone fun h' he => ?_)
    show wpAny _ _ (Builtin.Dict.addKeywords D [] >>= _) _ _ _
    refine wpAny_bind (wpAny_pure (wpAny_pure ?_))
    have k : ∀ b o, b ≠ I → s.heap.get? b = some o → h'.get? b = some o := fun b o hb e => he b o hb e
    refine hR h' s.toks ?_ (fun b o h1 h2 e => k b o h2 e)
    obtain ⟨o, es, ep, ho, r⟩ := hd
    exact ⟨o, es, ep, k _ _ hDI ho, r⟩
  | kv :: ps, i, acc, s, hn, hit, hl, hp, hd, hsz, hR => by
    obtain ⟨x, hx, a, t, n, rfl, ha⟩ := hp 0 kv rfl
    rw [Nat.add_zero] at hx
    refine codeAny_builtin J5 ?_
    rw [Around.under_plainId Yf _]
    show wpAny _ A.in1 (pyNext (.ref I) >>= _) _ _ s
    refine wpAny_bind (wpAny_pyNext_list_item (A := A.in1) hit hl hx fun h₁ hit₁ hs₁ => ?_)
    have aI : a ≠ I := fun e => by obtain ⟨o, ho, hc, _⟩ := hit; rw [← e, ha] at ho; cases ho; simp at hc
    have ha₁ := (hs₁.2 a aI).trans ha
    show wpAny _ _ (holding [.ref a] _ >>= _) _ _ _
    refine wpAny_bind (wpAny_holding ?_)
    refine wpAny_bind (m := Sem.tryCatch (Builtin.Dict.pairItems (.ref a)) _) ?_
    refine wpAny_tryCatch ?_
    unfold Builtin.Dict.pairItems
    refine wpAny_bind (wpAny_typeOf (T := "tuple") ⟨_, ha₁, rfl⟩ ?_)
    rw [if_pos (by decide)]
    refine wpAny_bind (wpAny_seqItems ha₁ rfl (wpAny_pure ?_))
    show wpAny _ _ (holding [.int kv.1 t, kv.2] (dictSet D (.int kv.1 t) kv.2)) _ _ _
    have hd₁ : h₁.DictOf (intKind prog w) D acc := by
      obtain ⟨o, es, ep, ho, r⟩ := hd
      exact ⟨o, es, ep, (hs₁.2 D hDI).trans ho, r⟩
    simp only [List.length_cons] at hsz hn
    refine wpAny_holding (wpAny_dictSet_pairs (intKind_is prog w kv.1 t) hd₁ (fun h₂ hd₂ hs₂ => ?_) (by lia))
    refine wpAny_pure ⟨plainId_quiet Yf _, ?_⟩
    have k2 : ∀ b o, b ≠ D → b ≠ I → s.heap.get? b = some o → h₂.get? b = some o := fun b o h1 h2 e => (hs₂.2 b h1).trans ((hs₁.2 b h2).trans e)
    have hI2 : h₂.IsListIter I l (i + 1) := by
      obtain ⟨o, ho, r⟩ := hit₁
      exact ⟨o, (hs₂.2 I (Ne.symm hDI)).trans ho, r⟩
    have hl2 : h₂.IsList l items := by
      obtain ⟨o, ho, r⟩ := hl
      exact ⟨o, k2 l o (Ne.symm hDl) hIl ho, r⟩
    have key := Na (R := R) (items := items) hh hDI hDl hIl ps (i + 1) (stored acc kv.1 kv.2) { s with heap := h₂, toks := s.toks + 1 } (by lia) hI2 hl2 (fun j kv' hj => ?_) hd₂
      (by have := Vo (kvs := acc) (k := kv.1) (v := kv.2); lia) (fun h' tk hd' hk' => hR h' tk hd' fun b o h1 h2 e => hk' b o h1 h2 (k2 b o h1 h2 e))
    · simpa [rawInt] using key
    · obtain ⟨x', hx', a', t', n', rfl, ha'⟩ := hp (j + 1) kv' (by simpa using hj)
      have aI' : a' ≠ I := fun e => by obtain ⟨o, ho, hc, _⟩ := hit; rw [← e, ha'] at ho; cases ho; simp at hc
      have aD' : a' ≠ D := fun e => by obtain ⟨o, es, ep, ho, hc, _⟩ := hd; rw [← e, ha'] at ho; cases ho; exact absurd hc.1 (by simp)
      exact ⟨_, by rw [← hx']; congr 1; lia, a', t', n', rfl, k2 _ _ aD' aI' ha'⟩
theorem pairs_at {h : Heap} : ∀ {l : List MV} {vs : List Value} {ps : List (Int × MV)}, RepVs h l vs → pairsI l = some ps → ∃ kvs : List (Int × Value), RepKV h ps kvs ∧ kvs.length = l.length ∧ ∀ (j : Nat) (kv : Int × Value), kvs[j]? = some kv → ∃ x, vs[j]? = some x ∧ PairAt h x kv
  | [], [], ps => fun _ e => by simp [pairsI] at e; subst e; exact ⟨[], trivial, rfl, fun j kv e => by simp at e⟩
  | m :: l, v :: vs, ps => fun r e => by
    simp only [RepVs] at r
    unfold pairsI at e
    rw [List.mapM_cons] at e
    simp only [Option.bind_eq_bind, Option.bind_eq_some_iff, Option.pure_def, Option.some.injEq] at e
    obtain ⟨p, e1, ps', e2, rfl⟩ := e
    obtain ⟨kvs, h1, h2, h3⟩ := pairs_at r.2 e2
    have : ∃ k x, m = .tup [.int k, x] ∧ p = (k, x) := by
      split at e1
      · rename_i k x; cases e1; exact ⟨k, x, rfl, rfl⟩
      · cases e1
    obtain ⟨k, x, rfl, rfl⟩ := this
    have r1 := r.1
    simp only [RepV] at r1
    obtain ⟨a, us, n, rfl, ha, hu⟩ := r1
    match us, hu with
    | [u1, u2], hu =>
      simp only [RepVs, RepV, and_true] at hu
      obtain ⟨⟨t, rfl⟩, hx⟩ := hu
      refine ⟨(k, u2) :: kvs, by simp only [RepKV]; exact ⟨trivial, hx, h1⟩, by simp [h2], fun j kv hj => ?_⟩
      cases j with
      | zero => simp at hj; subst hj; exact ⟨_, rfl, a, t, n, rfl, ha⟩
      | succ j => exact h3 j kv (by simpa using hj)
    | [], hu => simp [RepVs] at hu
    | [_], hu => simp [RepVs] at hu
    | _ :: _ :: _ :: _, hu => simp [RepVs] at hu
  | [], _ :: _, _ => fun r _ => by simp [RepVs] at r
  | _ :: _, [], _ => fun r _ => by simp [RepVs] at r
theorem Ka {h : Heap} : ∀ {ps : List (Int × MV)} {kvs : List (Int × Value)} {acc : List (Int × MV)} {acc' : List (Int × Value)}, RepKV h ps kvs → RepKV h acc acc' → RepKV h (ps.foldl (fun d kv => putI d kv.1 kv.2) acc) (storedAll acc' kvs)
  | [], [], _, _ => fun _ r => r
  | p :: ps, k :: kvs, acc, acc' => fun x r => by
    simp only [RepKV] at x
    simp only [List.foldl_cons, storedAll]
    rw [x.1]
    exact Ka x.2.2 (A0 k.1 x.2.1 r)
  | [], _ :: _, _, _ => fun x _ => by simp [RepKV] at x
  | _ :: _, [], _, _ => fun x _ => by simp [RepKV] at x
theorem Pf {a : Addr} {l : List MV} {ps : List (Int × MV)} (r : RepH prog w μ s.heap) (f : FzIn fz μ) (q : μ a = some (.list l)) (e : pairsI l = some ps) (hn : fits l.length) (hA : A.handled = none) (hm : sysModules < s.heap.objs.size)
    (h : allocM fz μ (.idict (ps.foldl (fun d kv => putI d kv.1 kv.2) [])) fun c μ' => Q (.ref c) μ') :
    wpAny (model prog w) A (call (.type "dict") [.ref a]) (PostV prog w fz μ s Q) E s := by
  obtain ⟨vs, ⟨n, ha⟩, hv⟩ := r a _ q
  obtain ⟨kvs, hk, hkl, hp⟩ := pairs_at hv e
  have hvl := hv.length
  have hfit := Xq hn
  refine callType_codes (Q₁ := fun obj s₁ => obj = .ref s.heap.objs.size ∧ s₁ = { s with heap := s.heap.push { cls := .type "dict", data := .dict #[] } }) F.kt_called_dict (F.kt_typeCall_dict_1 _) F.entry_dict_init (kt_code_dict_new _ ⟨rfl, rfl⟩) ?_
  rintro obj s₁ ⟨rfl, rfl⟩
  have hnew : (s.heap.push { cls := .type "dict", data := .dict #[] }).DictOf (intKind prog w) s.heap.objs.size [] := Heap.DictOf.new s.heap
  have push1 : ∀ b o, s.heap.get? b = some o → (s.heap.push { cls := .type "dict", data := .dict #[] }).get? b = some o := fun b o e => Heap.get?_push_of_some _ e
  refine ⟨hnew.typeIs, F.args_dict_init_2 _ _, ?_⟩
  unfold Builtin.«dict.__init__»
  refine wpAny_bind ?_
  unfold Builtin.Dict.selfAndRest
  refine wpAny_bind (wpAny_notOrdered_dict hnew.typeIs ?_)
  show wpAny _ _ (pure (s.heap.objs.size, [Value.ref a])) _ _ _
  refine wpAny_pure ?_
  show wpAny _ _ (Builtin.Dict.updateFrom "dict.__init__" s.heap.objs.size (.ref a) [] .none) _ _ _
  unfold Builtin.Dict.updateFrom
  refine wpAny_bind (wpAny_typeOf (T := "list") ⟨_, push1 _ _ ha, rfl⟩ ?_)
  rw [if_pos (by decide)]
  refine wpAny_bind (Km (push1 _ _ ha) hA fun h₁ tk₁ k₁ => ?_)
  simp only [Option.isNone_none, if_true]
  refine wpAny_bind (wpAny_rule ?_)
  have hl₁ : h₁.IsList a vs.toArray := ⟨_, k₁ _ _ (push1 _ _ ha), rfl, n, rfl⟩
  refine wpAny_bind (wpAny_pyIter_list hl₁ ?_)
  have push2 : ∀ b o, h₁.get? b = some o → (h₁.push { cls := .type "list_iterator", data := .fields #[.ref a, .int 0 0] }).get? b = some o := fun b o e => Heap.get?_push_of_some _ e
  have lt1 : s.heap.objs.size < h₁.objs.size := by
    obtain ⟨o, es, ep, ho, _⟩ := hnew
    exact Heap.lt_size (k₁ _ _ ho)
  have lta : a < s.heap.objs.size := Heap.lt_size ha
  refine wpAny_pure ⟨plainId_quiet Yf _, Na (A := A.in1) (items := vs.toArray) (l := a) hA (Nat.ne_of_lt lt1) (Nat.ne_of_gt lta) (Nat.ne_of_lt (Nat.lt_trans lta lt1)) kvs 0 [] _ (by simp; simp [*]) ?_ ?_ ?_ ?_ (by simp; simp [*]) ?_⟩
  · exact ⟨_, Heap.get?_push_size _ rfl, rfl, rfl⟩
  · exact ⟨_, push2 _ _ (k₁ _ _ (push1 _ _ ha)), rfl, n, rfl⟩
  · intro j kv hj
    obtain ⟨x, hx, b, t, m, rfl, hb⟩ := hp j kv hj
    exact ⟨_, by simpa using hx, b, t, m, rfl, push2 _ _ (k₁ _ _ (push1 _ _ hb))⟩
  · obtain ⟨o, es, ep, ho, r⟩ := hnew
    exact ⟨o, es, ep, push2 _ _ (k₁ _ _ ho), r⟩
  · intro h' tk hd' k'
    have kall : ∀ b o, s.heap.get? b = some o → h'.get? b = some o := fun b o e => by
      have hlt := Heap.lt_size e
      exact k' b o (Nat.ne_of_lt hlt) (Nat.ne_of_lt (Nat.lt_trans hlt lt1)) (push2 _ _ (k₁ _ _ (push1 _ _ e)))
    refine ⟨rfl, Z7 h r f (Z0 _) kall ⟨_, hd', Ka (hk.keepT (.of_all kall)) trivial, ?_⟩⟩
    have : s.heap.objs.size ≠ sysModules := Nat.ne_of_gt hm
    simpa using this
theorem Ay {a : Addr} {l : List (Int × MV)} (r : RepH prog w μ s.heap) (f : FzIn fz μ) (q : μ a = some (.idict l)) (hn : fits l.length) (hm : sysModules < s.heap.objs.size)
    (h : allocM fz μ (.idict l) fun c μ' => Q (.ref c) μ') : wpAny (model prog w) A (call (.type "dict") [.ref a]) (PostV prog w fz μ s Q) E s := by
  obtain ⟨kvs, hd, hk, hs⟩ := r a _ q
  have hl := hk.length
  refine kt_call_dict hs hd (by have := Xq hn; simp [*]) fun h' hd' hs' => ?_
  have kall : ∀ b o, s.heap.get? b = some o → h'.get? b = some o := fun b o e => (hs'.2 b (Nat.ne_of_lt (Heap.lt_size e))).trans (Heap.get?_push_of_some _ e)
  refine Z7 (tk := s.toks) h r f (Z0 _) kall ⟨_, hd', hk.keepT (.of_all kall), ?_⟩
  have : s.heap.objs.size ≠ sysModules := Nat.ne_of_gt hm
  simpa using this
end
end Mine
end
section
set_option maxRecDepth 100000
namespace Mine
open PySem PySem.Calls PyProof.Rows PySem.W
section
variable {prog : Program} {w : World} {A : Around} {E : Value → Shared → Prop} {fz : List Addr} {μ : MH} {s : Shared} {Q : MQ} {d : Nat}
theorem op_isinst {t : TY} {v : MV} {x : Value} {b : Bool} (hv : RepV s.heap v x) (r : RepH prog w μ s.heap) (e : isTy μ t v = some b) {Q : Value → Shared → Prop} (h : ∀ s', Still s s' → Q (.bool b) s') :
    wpAny (model prog w) A (call (.builtin "isinstance") [x, .type (tyName t)]) Q E s := by
  cases v with
  | none =>
    obtain rfl := Option.some.inj e; obtain rfl : x = .none := hv
    cases t
    · exact IsiPair.NoneType_int (h _ ⟨rfl, rfl, rfl⟩)
    · exact IsiPair.NoneType_bool (h _ ⟨rfl, rfl, rfl⟩)
    · exact IsiPair.NoneType_str (h _ ⟨rfl, rfl, rfl⟩)
    · exact IsiPair.NoneType_tuple (h _ ⟨rfl, rfl, rfl⟩)
    · exact IsiPair.NoneType_list (h _ ⟨rfl, rfl, rfl⟩)
    · exact IsiPair.NoneType_dict (h _ ⟨rfl, rfl, rfl⟩)
  | bool bb =>
    obtain rfl := Option.some.inj e; obtain rfl : x = .bool bb := hv
    cases t
    · exact IsiPair.bool_int (h _ ⟨rfl, rfl, rfl⟩)
    · exact IsiPair.bool_bool (h _ ⟨rfl, rfl, rfl⟩)
    · exact IsiPair.bool_str (h _ ⟨rfl, rfl, rfl⟩)
    · exact IsiPair.bool_tuple (h _ ⟨rfl, rfl, rfl⟩)
    · exact IsiPair.bool_list (h _ ⟨rfl, rfl, rfl⟩)
    · exact IsiPair.bool_dict (h _ ⟨rfl, rfl, rfl⟩)
  | int ii =>
    obtain rfl := Option.some.inj e; obtain ⟨u, rfl⟩ := hv
    cases t
    · exact IsiPair.int_int (h _ ⟨rfl, rfl, rfl⟩)
    · exact IsiPair.int_bool (h _ ⟨rfl, rfl, rfl⟩)
    · exact IsiPair.int_str (h _ ⟨rfl, rfl, rfl⟩)
    · exact IsiPair.int_tuple (h _ ⟨rfl, rfl, rfl⟩)
    · exact IsiPair.int_list (h _ ⟨rfl, rfl, rfl⟩)
    · exact IsiPair.int_dict (h _ ⟨rfl, rfl, rfl⟩)
  | str ss =>
    obtain rfl := Option.some.inj e; obtain ⟨u, rfl⟩ := hv
    cases t
    · exact IsiPair.str_int (h _ ⟨rfl, rfl, rfl⟩)
    · exact IsiPair.str_bool (h _ ⟨rfl, rfl, rfl⟩)
    · exact IsiPair.str_str (h _ ⟨rfl, rfl, rfl⟩)
    · exact IsiPair.str_tuple (h _ ⟨rfl, rfl, rfl⟩)
    · exact IsiPair.str_list (h _ ⟨rfl, rfl, rfl⟩)
    · exact IsiPair.str_dict (h _ ⟨rfl, rfl, rfl⟩)
  | tup ll =>
    obtain rfl := Option.some.inj e; obtain ⟨a, vs, n, rfl, ho, _⟩ := hv
    cases t
    · exact IsiPair.tuple_int ho rfl (h _ ⟨rfl, rfl, rfl⟩)
    · exact IsiPair.tuple_bool ho rfl (h _ ⟨rfl, rfl, rfl⟩)
    · exact IsiPair.tuple_str ho rfl (h _ ⟨rfl, rfl, rfl⟩)
    · exact IsiPair.tuple_tuple ho rfl (h _ ⟨rfl, rfl, rfl⟩)
    · exact IsiPair.tuple_list ho rfl (h _ ⟨rfl, rfl, rfl⟩)
    · exact IsiPair.tuple_dict ho rfl (h _ ⟨rfl, rfl, rfl⟩)
  | ref a =>
    obtain rfl : x = .ref a := hv
    have dicts : ∀ o, s.heap.get? a = some o → o.cls = .type "dict" → b = decide (t = .dict) → wpAny (model prog w) A (call (.builtin "isinstance") [.ref a, .type (tyName t)]) Q E s := by
      intro o ho hc hb
      subst hb
      cases t
      · exact IsiPair.dict_int ho hc (h _ ⟨rfl, rfl, rfl⟩)
      · exact IsiPair.dict_bool ho hc (h _ ⟨rfl, rfl, rfl⟩)
      · exact IsiPair.dict_str ho hc (h _ ⟨rfl, rfl, rfl⟩)
      · exact IsiPair.dict_tuple ho hc (h _ ⟨rfl, rfl, rfl⟩)
      · exact IsiPair.dict_list ho hc (h _ ⟨rfl, rfl, rfl⟩)
      · exact IsiPair.dict_dict ho hc (h _ ⟨rfl, rfl, rfl⟩)
    replace e : isTyO t (μ a) = some b := e
    cases q : μ a with
    | none => rw [q] at e; cases e
    | some mo =>
      rw [q] at e
      cases mo with
      | list l =>
        obtain rfl := Option.some.inj e
        obtain ⟨vs, ⟨n, ho⟩, _⟩ := r a _ q
        cases t
        · exact IsiPair.list_int ho rfl (h _ ⟨rfl, rfl, rfl⟩)
        · exact IsiPair.list_bool ho rfl (h _ ⟨rfl, rfl, rfl⟩)
        · exact IsiPair.list_str ho rfl (h _ ⟨rfl, rfl, rfl⟩)
        · exact IsiPair.list_tuple ho rfl (h _ ⟨rfl, rfl, rfl⟩)
        · exact IsiPair.list_list ho rfl (h _ ⟨rfl, rfl, rfl⟩)
        · exact IsiPair.list_dict ho rfl (h _ ⟨rfl, rfl, rfl⟩)
      | idict l => obtain ⟨kvs, ⟨o, es, ep, ho, hc, _⟩, _⟩ := r a _ q; exact dicts o ho hc.1 (Option.some.inj e).symm
      | odict l x => obtain ⟨o, es, en, ep, kvs, h1, _⟩ := r a _ q; exact dicts o h1.here h1.ex.1 (Option.some.inj e).symm
  | _ => cases e
theorem op_len {v : MV} {x : Value} (hv : RepV s.heap v x) (r : RepH prog w μ s.heap) (h : lenM v Q μ) : wpAny (model prog w) A (call (.builtin "len") [x]) (PostV prog w fz μ s Q) E s := by
  have f63 : ∀ {n : Nat}, fits n → (n : Int) < 2 ^ 63 := fun h => by unfold fits at h; (first|lia|omega)
  cases v with
  | tup l =>
    obtain ⟨a, vs, n, rfl, ho, hr⟩ := hv
    have hl := hr.length
    refine P.len_tuple ho (by have := f63 h.1; simp; (first|lia|omega)) ?_
    rw [show vs.toArray.size = l.length by simp [hl]]
    exact Xp h.2 r (by simp [RepV]) rfl rfl rfl
  | str st =>
    obtain ⟨t, rfl⟩ := hv
    exact P.len_str (by have := f63 h.1; (first|lia|omega)) (Xp h.2 r (by simp [RepV]) rfl rfl rfl)
  | ref a =>
    obtain rfl : x = .ref a := hv
    replace h : lenO (μ a) fun n => Q (.int n) μ := h
    cases q : μ a with
    | none => rw [q] at h; exact False.elim h
    | some mo =>
      rw [q] at h
      cases mo with
      | list l =>
        obtain ⟨vs, h1, hr⟩ := r a _ q
        have hl := hr.length
        refine Calls.call_len_list h1.isList (by have := f63 h.1; simp; (first|lia|omega)) ?_
        rw [show vs.toArray.size = l.length by simp [hl]]
        exact Xp h.2 r (by simp [RepV]) rfl rfl rfl
      | idict l =>
        obtain ⟨kvs, hd, hk, hs⟩ := r a _ q
        have hl := hk.length
        refine call_len_dict hs hd (by have := f63 h.1; (first|lia|omega)) ?_
        rw [hl]
        exact Xp h.2 r (by simp [RepV]) rfl rfl rfl
      | odict l y =>
        obtain ⟨o, es, en, ep, kvs, h1, h2, hr, h4, h5, h6⟩ := r a _ q
        have hl : (es.push en).size = l.length + 1 := by rw [Array.size_push, ← hr.length, ← h2.length, Array.length_toList]
        refine raw_len h5 h1 (by rw [hl]; exact f63 h.1) ?_
        rw [hl]
        exact Xp h.2 r ⟨_, rfl⟩ rfl rfl rfl
  | _ => exact False.elim h
theorem op_min2 {x y : Int} {t u : Tok} (hA : A.handled = none) (r : RepH prog w μ s.heap) (h : Q (.int (min x y)) μ) : wpAny (model prog w) A (call (.builtin "min") [.int x t, .int y u]) (PostV prog w fz μ s Q) E s := by
  refine min_two_ints hA fun h' tk k => ?_
  by_cases c : y < x
  · rw [if_pos c]; exact Yo h r k (by simp only [RepV]; exact ⟨u, by congr 1; (first|lia|omega)⟩)
  · rw [if_neg c]; exact Yo h r k (by simp only [RepV]; exact ⟨t, by congr 1; (first|lia|omega)⟩)
theorem op_max2 {x y : Int} {t u : Tok} (hA : A.handled = none) (r : RepH prog w μ s.heap) (h : Q (.int (max x y)) μ) : wpAny (model prog w) A (call (.builtin "max") [.int x t, .int y u]) (PostV prog w fz μ s Q) E s := by
  refine max_two_ints hA fun h' tk k => ?_
  by_cases c : y > x
  · rw [if_pos c]; exact Yo h r k (by simp only [RepV]; exact ⟨u, by congr 1; (first|lia|omega)⟩)
  · rw [if_neg c]; exact Yo h r k (by simp only [RepV]; exact ⟨t, by congr 1; (first|lia|omega)⟩)
theorem op_list {v : MV} {x : Value} {l : List MV} (hA : A.handled = none) (hv : RepV s.heap v x) (r : RepH prog w μ s.heap) (f : FzIn fz μ) (e : items μ v = some l) (hn : fits l.length) (hns : ∀ st, v ≠ .str st)
    (h : allocM fz μ (.list l) fun c μ' => Q (.ref c) μ') : wpAny (model prog w) A (call (.type "list") [x]) (PostV prog w fz μ s Q) E s := by
  rcases C0 r hv e with ⟨a, vs, n, rfl, ho, hr⟩ | ⟨st, t, rfl⟩ | ⟨da, ⟨T, p, n, P, OK, rfl, K, ok, rfl, hP⟩⟩
  · have hl := hr.length
    have fin : ∀ h' c', (∀ b o', s.heap.get? b = some o' → h'.get? b = some o') → h'.get? s.heap.objs.size = some { cls := .type "list", dict := none, data := .seq vs.toArray c', slots := #[] } → PostV prog w fz μ s Q (.ref s.heap.objs.size) { s with heap := h' } :=
      fun h' c' k hg => Z7 (tk := s.toks) h r f (Z0 _) k ⟨vs, ⟨c', hg⟩, hr.keepT (.of_all k)⟩
    rcases ho with ho | ho
    · exact call_list_seq a (.inl rfl) ho rfl rfl fin (by have := Xq hn; simp; (first|lia|omega))
    · exact call_list_seq a (.inr rfl) ho rfl rfl fin (by have := Xq hn; simp; (first|lia|omega))
  · cases v <;> simp [RepV] at hv
    exact absurd rfl (hns _)
  · refine kdl_call K hA ok (Xq hn) fun h' tk acc c k hg ha => Z7 h r f (Z0 _) k ⟨acc.toList, ⟨c, by simpa using hg⟩, Js (by rw [Array.length_toList]; exact ha.1) fun j u hj => ?_⟩
    exact hP j u (ha.2 j u (by rw [← Array.getElem?_toList]; exact hj)) h' (.of_all k)
theorem boolsAt {h : Heap} : ∀ {l : List MV} {vs : List Value} {bs : List Bool}, RepVs h l vs → boolsOf l = some bs → vs = bs.map .bool
  | [], [], bs => fun _ e => by simp [boolsOf] at e; subst e; rfl
  | m :: l, v :: vs, bs => fun r e => by
    simp only [RepVs] at r
    unfold boolsOf at e
    rw [List.mapM_cons] at e
    simp only [Option.bind_eq_bind, Option.bind_eq_some_iff, Option.pure_def, Option.some.injEq] at e
    obtain ⟨i, e1, bs', e2, rfl⟩ := e
    cases m <;> simp at e1
    subst e1
    simp only [RepV] at r
    rw [r.1, boolsAt r.2 e2]; rfl
  | [], _ :: _, _ => fun r _ => by simp [RepVs] at r
  | _ :: _, [], _ => fun r _ => by simp [RepVs] at r
theorem op_all {a : Addr} {l : List MV} {bs : List Bool} (hA : A.handled = none) (r : RepH prog w μ s.heap) (e : lst μ a = some l) (hb : boolsOf l = some bs) (hn : fits l.length) (h : Q (.bool (bs.all id)) μ) :
    wpAny (model prog w) A (call (.builtin "all") [.ref a]) (PostV prog w fz μ s Q) E s := by
  obtain ⟨vs, h1, hr, q⟩ := Zp r e
  have hvs := boolsAt hr hb
  have lta : a < s.heap.objs.size := by obtain ⟨n, ho⟩ := h1; exact Heap.lt_size ho
  refine call_all_walk (wpAny_pyIter_list h1.isList ?_)
  refine ⟨_, _, _, _, _, _, fun i => bs.getD i true, rfl, Walks.list (A := A.in1) hA s.heap.objs.size a (Nat.ne_of_lt lta) vs.toArray, ⟨⟨_, Heap.get?_push_size _ rfl, rfl, rfl⟩, h1.isList.push _⟩, ?_, ?_⟩
  · intro i v s' Q' E' hP hQ'
    subst hvs
    rw [List.getElem?_toArray, List.getElem?_map] at hP
    obtain ⟨b, hb1, rfl⟩ := Option.map_eq_some_iff.mp hP
    refine wpAny_truthy_bool ?_
    simpa [List.getD, hb1] using hQ'
  · intro h' tk k
    have kall : ∀ b o, s.heap.get? b = some o → h'.get? b = some o := fun b o e => k b o (by simp; exact Nat.ne_of_lt (Heap.lt_size e)) (Heap.get?_push_of_some _ e)
    have hx : ((List.range vs.toArray.size).all fun i => bs.getD i true) = bs.all id := by
      subst hvs
      simp only [List.size_toArray, List.length_map]
      rw [Bool.eq_iff_iff]
      simp only [List.all_eq_true, List.mem_range, id]
      constructor
      · intro hh b hb
        obtain ⟨i, hi, rfl⟩ := List.getElem_of_mem hb
        have := hh i hi
        simpa [List.getD, List.getElem?_eq_getElem hi] using this
      · intro hh i hi
        have := hh bs[i] (List.getElem_mem hi)
        simpa [List.getD, List.getElem?_eq_getElem hi] using this
    rw [hx]
    exact Yo h r kall (by simp [RepV])
noncomputable def maxFrom (f : Nat → Int) (j k : Nat) (b : Int) : Int := (List.range' j k).foldl (fun m i => max m (f i)) b
theorem max_loop {R : Result → Shared → Prop} {I S : Addr} {fp wr : List Addr} {n : Nat} {P : Nat → Value → Prop} {St : Nat → Heap → Prop} {kw : List (Str × Value)} (W : Walks prog w A.in1 I fp wr n P St) (f : Nat → Int) (hP : ∀ i v, P i v → ∃ t, v = .int (f i) t) (hSf : S ∉ fp) :
    ∀ (k j : Nat) (s : Shared) (b : Int) (t : Tok) (c : Nat), n = j + k → St j s.heap → s.heap.get? S = some { cls := .type "list", dict := none, data := .seq #[.int b t, .int b t] c, slots := #[] } →
      (∀ t' h' tk, (∀ b o, b ∉ wr → b ≠ S → s.heap.get? b = some o → h'.get? b = some o) → R (.ok (.ret (.int (maxFrom f j k b) t'))) { s with heap := h', toks := tk }) →
      codeAny (model prog w) A (.builtin "max.loop" ⟨[.ref I, .none, .ref S], kw⟩) R s := by
  have hSw : S ∉ wr := fun h => hSf (W.sub _ h)
  have hname : (toString "max" ++ toString ".loop" : String) = "max.loop" := by decide
  intro k
  induction k with
  | zero =>
    intro j s b t c hn hst hS hR
    refine codeAny_builtin F.entry_max_loop ?_
    rw [Around.under_plainId F.plain_max_loop _]
    show wpAny _ A.in1 (seqItems? (.ref S) >>= _) _ _ s
    refine wpAny_bind (wpAny_seqItems hS rfl ?_)
    show wpAny _ A.in1 (tryCatch (pyNext (.ref I)) _ >>= _) _ _ s
    refine wpAny_bind (wpAny_tryCatch (W.done s _ _ (by rw [hn]; exact hst) fun h' tk hk' => ?_))
    have hS' := hk' S _ hSw hS
    show wpAny _ A.in1 (updateSeq S (fun _ => #[]) >>= _) _ _ _
    refine wpAny_bind ?_
    refine wpAny_updateSeq hS' rfl (wpAny_bind (wpAny_letGo (wpAny_pure ?_)))
    exact hR t _ tk fun b o hbw hbS e => (Heap.get?_update_other _ _ (Ne.symm hbS)).trans (hk' b o hbw e)
  | succ k ih =>
    intro j s b t c hn hst hS hR
    refine codeAny_builtin F.entry_max_loop ?_
    rw [Around.under_plainId F.plain_max_loop _]
    show wpAny _ A.in1 (seqItems? (.ref S) >>= _) _ _ s
    refine wpAny_bind (wpAny_seqItems hS rfl ?_)
    show wpAny _ A.in1 (tryCatch (pyNext (.ref I)) _ >>= _) _ _ s
    refine wpAny_bind (wpAny_tryCatch (W.item j s _ _ (by (first|lia|omega)) hst fun v h' tk hPv hst' hk' => ?_))
    obtain ⟨u, rfl⟩ := hP j v hPv
    have hS' := hk' S _ hSw hS
    show wpAny _ A.in1 (tryCatch (holding [.int (f j) u, .int (f j) u] (compareOp .Gt (.int (f j) u) (.int b t) >>= _)) _ >>= _) _ _ _
    refine wpAny_bind (wpAny_tryCatch (wpAny_holding (wpAny_bind (PyProof.Rows.gt_int ?_))))
    refine wpAny_bind (wpAny_holding (wpAny_truthy_bool ?_))
    refine wpAny_bind (wpAny_letGo (wpAny_pure ?_))
    have step : ∀ b', b' = max b (f j) → maxFrom f (j + 1) k b' = maxFrom f j (k + 1) b := fun b' e => by
      unfold maxFrom; rw [List.range'_succ, List.foldl_cons, e]
    by_cases hb : b < f j
    · rw [decide_eq_true hb]
      simp only [if_true]
      refine wpAny_bind ?_
      refine wpAny_updateSeq hS' rfl (wpAny_bind (wpAny_letGo ?_))
      rw [hname]
      refine wpAny_pure ⟨plainId_quiet F.plain_max_loop _, ih (j + 1) _ (f j) u _ (by (first|lia|omega)) (W.frame _ _ _ hst' fun b hbf o e => ?_) (Heap.get?_update_self _ hS' rfl) fun t' h'' tk'' hk'' => ?_⟩
      · exact (Heap.get?_update_other _ _ (fun h : S = b => hSf (by rw [h]; exact hbf))).trans e
      · rw [step _ (by (first|lia|omega))]
        exact hR t' h'' tk'' fun b o hbw hbS e => hk'' b o hbw hbS ((Heap.get?_update_other _ _ (Ne.symm hbS)).trans (hk' b o hbw e))
    · rw [decide_eq_false hb]
      simp only [Bool.false_eq_true, if_false]
      refine wpAny_bind (wpAny_letGo ?_)
      rw [hname]
      refine wpAny_pure ⟨plainId_quiet F.plain_max_loop _, ih (j + 1) _ b t c (by (first|lia|omega)) hst' hS' fun t' h'' tk'' hk'' => ?_⟩
      rw [step _ (by (first|lia|omega))]
      exact hR t' h'' tk'' fun b o hbw hbS e => hk'' b o hbw hbS (hk' b o hbw e)
theorem int_src {v : MV} {x : Value} {l : List MV} {ns : List Int} (hA : A.handled = none) (hv : RepV s.heap v x) (r : RepH prog w μ s.heap) (e : items μ v = some l) (hi : intsOf l = some ns) (hns : ∀ st, v ≠ .str st) :
    ∃ oI fp P St, (∀ (E : Value → Shared → Prop) (Q : Value → Shared → Prop), Q (.ref s.heap.objs.size) { s with heap := s.heap.push oI } → wpAny (model prog w) A (pyIter x) Q E s) ∧ Walks prog w A s.heap.objs.size fp [s.heap.objs.size] ns.length P St ∧ St 0 (s.heap.push oI) ∧
      (∀ b ∈ fp, b < (s.heap.push oI).objs.size) ∧ ∀ (i : Nat) u, P i u → ∃ t, u = .int (ns.getD i 0) t := by
  have hnl := Pp hi
  have get : ∀ (i : Nat) (m : MV), l[i]? = some m → m = .int (ns.getD i 0) := by
    intro i m hm
    have : ∀ (l : List MV) (ns : List Int), intsOf l = some ns → ∀ (i : Nat) (m : MV), l[i]? = some m → m = .int (ns.getD i 0) := by
      intro l
      induction l with
      | nil => intro ns e i m hm; simp at hm
      | cons y l ih =>
        intro ns e i m hm
        unfold intsOf at e
        rw [List.mapM_cons] at e
        simp only [Option.bind_eq_bind, Option.bind_eq_some_iff, Option.pure_def, Option.some.injEq] at e
        obtain ⟨z, e1, ns', e2, rfl⟩ := e
        cases i with
        | zero => simp at hm; subst hm; cases y <;> simp at e1; subst e1; rfl
        | succ i => simpa using ih ns' e2 i m (by simpa using hm)
    exact this l ns hi i m hm
  rcases C0 r hv e with ⟨a, vs, n, rfl, ho, hr⟩ | ⟨st, t, rfl⟩ | ⟨da, ⟨T, p, n, P, OK, rfl, K, ok, rfl, hP⟩⟩
  · have hl := hr.length
    have lta : a < s.heap.objs.size := by rcases ho with ho | ho <;> exact Heap.lt_size ho
    have hgt : ∀ (i : Nat) u, vs.toArray[i]? = some u → ∃ t, u = .int (ns.getD i 0) t := by
      intro i u hu
      rw [List.getElem?_toArray] at hu
      have hlt := (List.getElem?_eq_some_iff.mp hu).1
      have hlt2 : i < l.length := by (first|lia|omega)
      have hli : l[i]? = some l[i] := List.getElem?_eq_getElem hlt2
      obtain ⟨y, h1, h2⟩ := hr.get hli
      rw [hu] at h1; cases h1
      rw [get i _ hli] at h2
      simpa [RepV] using h2
    have sz : vs.toArray.size = ns.length := by simp; (first|lia|omega)
    rcases ho with ho | ho
    · have hL : s.heap.IsList a vs.toArray := ⟨_, ho, rfl, n, rfl⟩
      refine ⟨_, _, _, _, fun E Q hq => wpAny_pyIter_list hL hq, sz ▸ Walks.list hA s.heap.objs.size a (Nat.ne_of_lt lta) vs.toArray, ⟨⟨_, Heap.get?_push_size _ rfl, rfl, rfl⟩, hL.push _⟩, ?_, hgt⟩
      intro b hb; rw [Heap.size_push]; simp at hb; rcases hb with rfl | rfl
      · exact Nat.lt_succ_self _
      · exact Nat.lt_succ_of_lt lta
    · have hL : s.heap.IsTuple a vs.toArray := ⟨_, ho, rfl, n, rfl⟩
      refine ⟨_, _, _, _, fun E Q hq => wpAny_pyIter_tuple hL hq, sz ▸ Walks.tuple hA s.heap.objs.size a (Nat.ne_of_lt lta) vs.toArray, ⟨⟨_, Heap.get?_push_size _ rfl, rfl, rfl⟩, hL.push _⟩, ?_, hgt⟩
      intro b hb; rw [Heap.size_push]; simp at hb; rcases hb with rfl | rfl
      · exact Nat.lt_succ_self _
      · exact Nat.lt_succ_of_lt lta
  · cases v <;> simp [RepV] at hv
    exact absurd rfl (hns _)
  · obtain ⟨oI, St, h1, h2, h3⟩ := K.iter A s hA ok
    refine ⟨oI, _, P, St, h1, hnl ▸ h2, h3, ?_, fun i u hu => ?_⟩
    · have := (K.there _ ok).2
      intro b hb; rw [Heap.size_push]; simp at hb; rcases hb with rfl | rfl
      · exact Nat.lt_succ_self _
      · exact Nat.lt_succ_of_lt this
    · obtain ⟨m, hm, hr⟩ := hP i u hu s.heap (.of_all fun _ _ e => e)
      rw [get i m hm] at hr
      simpa [RepV] using hr
theorem B3 (ns : List Int) : ∀ (k j : Nat) (b : Int), ns.length = j + k → maxFrom (fun i => ns.getD i 0) j k b = (ns.drop j).foldl max b := by
  intro k
  induction k with
  | zero => intro j b h; simp [maxFrom, List.drop_eq_nil_of_le (by (first|lia|omega) : ns.length ≤ j)]
  | succ k ih =>
    intro j b h
    have hlt : j < ns.length := by (first|lia|omega)
    rw [List.drop_eq_getElem_cons hlt, List.foldl_cons]
    unfold maxFrom
    rw [List.range'_succ, List.foldl_cons]
    have := ih (j + 1) (max b ns[j]) (by (first|lia|omega))
    unfold maxFrom at this
    dsimp only at this ⊢
    rw [show ns.getD j 0 = ns[j] by simp [List.getD, hlt]]
    exact this
theorem check_max1 (x : Value) : checkBuiltinCall "max" ⟨[x], []⟩ = pure () := by kernel_rfl
theorem check_maxD (x d : Value) : checkBuiltinCall "max" ⟨[x], [(Str.ofString "default", d)]⟩ = pure () := by kernel_rfl
theorem op_max {v : MV} {x : Value} {l : List MV} {ns : List Int} {dflt : Option (Int × Tok)} {m : Int} (hA : A.handled = none) (hv : RepV s.heap v x) (r : RepH prog w μ s.heap) (e : items μ v = some l) (hi : intsOf l = some ns) (hns : ∀ st, v ≠ .str st)
    (hm : (maxI ns).or (dflt.map (·.1)) = some m) (h : Q (.int m) μ) :
    wpAny (model prog w) A (call (.builtin "max") [x] (dflt.toList.map fun d => (Str.ofString "default", .int d.1 d.2))) (PostV prog w fz μ s Q) E s := by
  have hname : (toString "max" ++ toString ".loop" : String) = "max.loop" := by decide
  obtain ⟨oI, fp, P, St, hit, W, hst, hfp, hP⟩ := int_src (A := A.in1) (w := w) (prog := prog) hA hv r e hi hns
  have hchk : checkBuiltinCall "max" ⟨[x], dflt.toList.map fun d => (Str.ofString "default", .int d.1 d.2)⟩ = pure () := by
    cases dflt
    · exact check_max1 x
    · exact check_maxD x _
  refine wpAny_call (codeAny_call_builtin F.plain_max F.entry_max (wpAny_of_eq hchk ?_))
  have hbp : Builtin.Builtins.bindParams "max" ["key", "default"] 0 ⟨[], dflt.toList.map fun d => (Str.ofString "default", .int d.1 d.2)⟩ = pure [none, dflt.map fun d => .int d.1 d.2] := by
    cases dflt <;> rfl
  show wpAny _ A.in1 (Builtin.Builtins.bindParams "max" ["key", "default"] 0 ⟨[], dflt.toList.map fun d => (Str.ofString "default", .int d.1 d.2)⟩ >>= _) _ _ s
  refine wpAny_bind (wpAny_of_eq hbp ?_)
  refine wpAny_bind (wpAny_pure ?_)
  refine wpAny_bind (hit _ _ ?_)
  refine wpAny_bind (wpAny_newObj_type ?_)
  rw [hname]
  refine wpAny_pure ⟨plainId_quiet F.plain_max_loop _, ?_⟩
  have hSf : (s.heap.push oI).objs.size ∉ fp := fun hm => Nat.lt_irrefl _ (hfp _ hm)
  have hSw : (s.heap.push oI).objs.size ∉ [s.heap.objs.size] := fun h => hSf (W.sub _ h)
  have hS : ((s.heap.push oI).push { cls := .type "list", data := .seq ([] : List Value).toArray }).get? (s.heap.push oI).objs.size = some { cls := .type "list", dict := none, data := .seq ([] : List Value).toArray 0, slots := #[] } := Heap.get?_push_size _ rfl
  have hst2 : St 0 ((s.heap.push oI).push { cls := .type "list", data := .seq ([] : List Value).toArray }) := W.frame _ _ _ hst fun b _ o e => Heap.get?_push_of_some _ e
  have kall : ∀ h' : Heap, (∀ b o, b ∉ [s.heap.objs.size] → b ≠ (s.heap.push oI).objs.size → ((s.heap.push oI).push { cls := .type "list", data := .seq ([] : List Value).toArray }).get? b = some o → h'.get? b = some o) → ∀ b o, s.heap.get? b = some o → h'.get? b = some o :=
    fun h' k b o e => k b o (by simp; exact Nat.ne_of_lt (Heap.lt_size e)) (by rw [Heap.size_push]; exact Nat.ne_of_lt (Nat.lt_succ_of_lt (Heap.lt_size e))) (Heap.get?_push_of_some _ (Heap.get?_push_of_some _ e))
  refine codeAny_builtin F.entry_max_loop ?_
  rw [Around.under_plainId F.plain_max_loop _]
  show wpAny _ A.in1 (seqItems? (.ref _) >>= _) _ _ _
  refine wpAny_bind (wpAny_seqItems hS rfl ?_)
  show wpAny _ A.in1 (tryCatch (pyNext (.ref _)) _ >>= _) _ _ _
  cases ns with
  | nil =>
    refine wpAny_bind (wpAny_tryCatch (W.done _ _ _ hst2 fun h' tk hk' => ?_))
    cases dflt with
    | none => simp [maxI] at hm
    | some dd =>
      obtain ⟨di, dt⟩ := dd
      simp [maxI] at hm
      subst hm
      show wpAny _ _ (rule _ >>= _) _ _ _
      refine wpAny_bind (wpAny_rule (wpAny_pure ?_))
      exact Yo h r (kall h' fun b o h1 h2 e => hk' b o h1 e) (by simp [RepV])
  | cons n0 nr =>
    refine wpAny_bind (wpAny_tryCatch (W.item 0 _ _ _ (by simp) hst2 fun v' h' tk hPv hst' hk' => ?_))
    obtain ⟨t0, rfl⟩ := hP 0 v' hPv
    have hS' := hk' _ _ hSw hS
    show wpAny _ A.in1 (updateSeq _ (fun _ => #[.int n0 t0, .int n0 t0]) >>= _) _ _ _
    refine wpAny_bind ?_
    refine wpAny_updateSeq hS' rfl ?_
    rw [hname]
    refine wpAny_pure ⟨plainId_quiet F.plain_max_loop _, max_loop W (fun i => (n0 :: nr).getD i 0) hP hSf nr.length 1 _ n0 t0 _ (by simp; (first|lia|omega)) (W.frame _ _ _ hst' fun b hbf o e => ?_) (Heap.get?_update_self _ hS' rfl) fun t' h'' tk'' hk'' => ?_⟩
    · exact (Heap.get?_update_other _ _ (fun q => hSf (by rw [q]; exact hbf))).trans e
    · rw [B3 (n0 :: nr) nr.length 1 n0 (by simp; (first|lia|omega))]
      have hm' : m = (List.drop 1 (n0 :: nr)).foldl max n0 := by simp [maxI] at hm; simp [hm]
      rw [← hm']
      refine Yo h r (kall h'' fun b o h1 h2 e => hk'' b o h1 h2 ((Heap.get?_update_other _ _ (Ne.symm h2)).trans (hk' b o h1 e))) (by simp [RepV])
end
end Mine
end
section
set_option maxRecDepth 100000
namespace Mine
open PySem PySem.Calls PyProof.Rows PySem.W
section
variable {prog : Program} {w : World} {A : Around} {E : Value → Shared → Prop} {fz : List Addr} {μ : MH} {s : Shared} {Q : MQ} {d : Nat}
theorem Kx {v : MV} (h : isStrV v = false) : ∀ st, v ≠ .str st := fun st e => by subst e; simp [isStrV] at h
theorem O1 {h : Heap} : ∀ {l : List MV} {vs : List Value} {ns : List Str}, RepVs h l vs → strsOf l = some ns → StrsAre vs ns
  | [], [], ns => fun _ e => by simp [strsOf] at e; subst e; exact .nil
  | m :: l, v :: vs, ns => fun r e => by
    simp only [RepVs] at r
    unfold strsOf at e
    rw [List.mapM_cons] at e
    simp only [Option.bind_eq_bind, Option.bind_eq_some_iff, Option.pure_def, Option.some.injEq] at e
    obtain ⟨i, e1, ns', e2, rfl⟩ := e
    cases m <;> simp at e1
    subst e1
    simp only [RepV] at r
    obtain ⟨⟨t, rfl⟩, hr⟩ := r
    exact .cons _ t (O1 hr e2)
  | [], _ :: _, _ => fun r _ => by simp [RepVs] at r
  | _ :: _, [], _ => fun r _ => by simp [RepVs] at r
noncomputable def MethOk (prog : Program) (w : World) (s : Shared) (name : Str) (ov : Value) (id : String) : Prop :=
  ∃ T, PlainAttrs T ∧ Slot T name id ∧ typeOf (.builtin id) = pure (.type "method_descriptor") ∧ s.TypeIs ov T ∧ (∀ a, ov = .ref a → ∃ ob, s.heap.get? a = some ob ∧ ob.dict = none)
theorem ty_append : typeOf (.builtin "list.append") = pure (.type "method_descriptor") := by show builtinType _ = _; rw [builtinType_eq_fast]; kernel_rfl
theorem ty_extend : typeOf (.builtin "list.extend") = pure (.type "method_descriptor") := by show builtinType _ = _; rw [builtinType_eq_fast]; kernel_rfl
theorem ty_keys : typeOf (.builtin "dict.keys") = pure (.type "method_descriptor") := by show builtinType _ = _; rw [builtinType_eq_fast]; kernel_rfl
theorem ty_values : typeOf (.builtin "dict.values") = pure (.type "method_descriptor") := by show builtinType _ = _; rw [builtinType_eq_fast]; kernel_rfl
theorem ty_pop : typeOf (.builtin "dict.pop") = pure (.type "method_descriptor") := by show builtinType _ = _; rw [builtinType_eq_fast]; kernel_rfl
theorem ty_join : typeOf (.builtin "str.join") = pure (.type "method_descriptor") := by show builtinType _ = _; rw [builtinType_eq_fast]; kernel_rfl
noncomputable def methId : MM → String
  | .append => "list.append" | .extend => "list.extend" | .keys => "dict.keys" | .values => "dict.values" | .get2 => "dict.get" | .join => "str.join"
  | .pop2 => "dict.pop" | .clear => "dict.clear" | .update => "dict.update" | .count => "list.count" | .index => "list.index" | .split => "str.split"
theorem meth_ok {m : MM} {o : MV} {x : Value} (hv : RepV s.heap o x) (r : RepH prog w μ s.heap) (e : mmKind m μ o = true) : MethOk prog w s (Str.ofString (mmName m)) x (methId m) := by
  have lists : ∀ a, isListO (μ a) = true → s.TypeIs (.ref a) "list" ∧ (∀ b, Value.ref a = .ref b → ∃ ob, s.heap.get? b = some ob ∧ ob.dict = none) := by
    intro a q
    obtain ⟨l, q⟩ := isListO_inv q
    obtain ⟨vs, ⟨n, ho⟩, _⟩ := r a _ q
    exact ⟨⟨_, ho, rfl⟩, fun b e => by cases e; exact ⟨_, ho, rfl⟩⟩
  have dicts : ∀ a, isDictO (μ a) = true → s.TypeIs (.ref a) "dict" ∧ (∀ b, Value.ref a = .ref b → ∃ ob, s.heap.get? b = some ob ∧ ob.dict = none) := by
    intro a q
    obtain ⟨l, hq⟩ := isDictO_inv q
    obtain ⟨kvs, ⟨o, es, ep, ho, hc, _⟩, _⟩ := r a _ hq
    exact ⟨⟨_, ho, hc.1⟩, fun b e => by cases e; exact ⟨_, ho, hc.2.1⟩⟩
  cases m with
  | append => replace e := refB_inv e; obtain ⟨a, rfl, e⟩ := e; obtain rfl : x = .ref a := hv; exact ⟨_, F.plainAttrs_list, F.slot_list_append, ty_append, lists a e⟩
  | pop2 => replace e := refB_inv e; obtain ⟨a, rfl, e⟩ := e; obtain rfl : x = .ref a := hv; exact ⟨_, F.plainAttrs_dict, F.slot_dict_pop, ty_pop, dicts a e⟩
  | join => replace e := isStrV_inv e; obtain ⟨y, rfl⟩ := e; obtain ⟨t, rfl⟩ := hv; exact ⟨_, F.plainAttrs_str, F.slot_str_join, ty_join, typeIs_str _ _ _, fun b e => by cases e⟩
  | _ => exact (Bool.false_ne_true e).elim
theorem RepVs.none {h : Heap} {vs : List Value} (r : RepVs h [] vs) : vs = [] := by
  cases vs with
  | nil => rfl
  | cons _ _ => exact False.elim r
theorem RepVs.one {h : Heap} {m : MV} {vs : List Value} (r : RepVs h [m] vs) : ∃ v, vs = [v] ∧ RepV h m v := by
  cases vs with
  | nil => exact False.elim r
  | cons v vs => obtain rfl := RepVs.none r.2; exact ⟨v, rfl, r.1⟩
theorem RepVs.two {h : Heap} {m n : MV} {vs : List Value} (r : RepVs h [m, n] vs) : ∃ v u, vs = [v, u] ∧ RepV h m v ∧ RepV h n u := by
  cases vs with
  | nil => exact False.elim r
  | cons v vs => obtain ⟨u, rfl, ru⟩ := RepVs.one r.2; exact ⟨v, u, rfl, r.1, ru⟩
theorem A2 {K : Type} [DecidableEq K] {h : Heap} (k : K) : ∀ {l : List (K × MV)} {kvs : List (K × Value)}, RepKV h l kvs → RepKV h (delI l k) (without kvs k)
  | [], [] => fun _ => trivial
  | m :: ms, v :: vs => fun x => by
    have e : m.1 = v.1 := x.1
    have ih := A2 k x.2.2
    unfold delI without at ih ⊢
    rw [List.filter_cons, List.filter_cons]
    by_cases q : v.1 = k
    · rw [if_neg (by rw [e, decide_eq_true q]; exact Bool.false_ne_true), if_neg (by simp [q])]; exact ih
    · rw [if_pos (by rw [e, decide_eq_false q]; rfl), if_pos (by simp [q])]; exact ⟨e, x.2.1, ih⟩
  | [], _ :: _ => fun x => False.elim x
  | _ :: _, [] => fun x => False.elim x
theorem op_meth {m : MM} {o : MV} {x : Value} {args : List MV} {vals : List Value} (hA : OkA d A) (hv : RepV s.heap o x) (ha : RepVs s.heap args vals) (r : RepH prog w μ s.heap) (f : FzIn fz μ) (h : methM fz m o args Q μ) :
    wpAny (model prog w) A (call (.builtin (methId m)) (x :: vals)) (PostV prog w fz μ s Q) E s := by
  cases m with
  | append =>
    replace h := Jj h; obtain ⟨a, rfl, h⟩ := h
    replace h := K9 h; obtain ⟨v, rfl, l, q, hf, hn, h⟩ := h
    obtain rfl : x = .ref a := hv
    replace ha := ha.one; obtain ⟨y, rfl, ha⟩ := ha
    obtain ⟨vs, h1, hr⟩ := r a _ q
    have hl := hr.length
    refine wpAny_list_append_plain h1 (fun h' hp hs => ?_) (by have := Xq hn; rw [List.size_toArray, hl]; (first|lia|omega))
    have k : ∀ b o, b ≠ a → s.heap.get? b = some o → h'.get? b = some o := fun b o hb e => (hs.2 b hb).trans e
    refine ⟨.none, _, h, rfl, r.update q k fun kt => ⟨vs ++ [y], by simpa using hp, (hr.append (m' := [v]) (v' := [y]) ⟨ha, trivial⟩).keepT kt⟩, ?_⟩
    exact Grow.update (tk := s.toks) q hf k
  | pop2 =>
    replace h := Jj h; obtain ⟨a, rfl, h⟩ := h
    replace h := a2_inv h; obtain ⟨kk, dv, rfl, h⟩ := h
    replace h := intV_inv h; obtain ⟨k, rfl, l, q, hf, hn, h⟩ := h
    obtain rfl : x = .ref a := hv
    replace ha := ha.two; obtain ⟨y, z, rfl, hk, hdv⟩ := ha
    obtain ⟨t, rfl⟩ := hk
    obtain ⟨kvs, hd, hkv, hs⟩ := r a _ q
    have hl := hkv.length
    have hw := A2 k hkv
    rcases Z4 k hkv with ⟨e1, e2⟩ | ⟨v', u, e1, e2, hr⟩
    · refine call_meetsIn F.slot_dict_pop hd.typeIs F.entry_dict_pop (F.args_dict_pop_3 _ _ _) (meets_dict_pop_default (intKind prog w) a (intKind_is prog w k t) hs rfl z) ⟨_, hd, e2, ?_⟩
      rw [e1] at h
      refine ⟨dv, _, h, hdv, r.update q (fun b o _ e => e) fun _ => ⟨kvs, hd, ?_, hs⟩, Grow.update q hf fun b o _ e => e⟩
      rw [without_of_not_mem kvs k (fun m => by
        obtain ⟨kv, hm, rfl⟩ := List.mem_map.mp m
        unfold valueAt at e2
        rw [Option.map_eq_none_iff, List.find?_eq_none] at e2
        exact absurd (decide_eq_true rfl) (e2 kv hm))] at hw
      exact hw
    · refine call_meetsIn F.slot_dict_pop hd.typeIs F.entry_dict_pop (F.args_dict_pop_3 _ _ _) (meets_dict_pop_there (intKind prog w) a (intKind_is prog w k t) [z] (.inr ⟨z, rfl⟩) rfl) ⟨_, _, hd, by have := Xq hn; (first|lia|omega), e2, fun h' hd' hs' => ?_⟩
      rw [e1] at h
      have kk : ∀ b o, b ≠ a → s.heap.get? b = some o → h'.get? b = some o := fun b o hb e => (hs'.2 b hb).trans e
      have kt := KeepsT.but r q kk
      exact ⟨v', _, h, hr.keepT kt, r.update q kk fun kt => ⟨_, hd', hw.keepT kt, hs⟩, Grow.update q hf kk⟩
  | join =>
    replace h := strV_inv h; obtain ⟨x', rfl, h⟩ := h
    replace h := K9 h; obtain ⟨v, rfl, h⟩ := h
    replace h := Jj h; obtain ⟨a, rfl, l, ss, hl, hss, hx, hw, h⟩ := h
    obtain ⟨t, rfl⟩ := hv
    replace ha := ha.one; obtain ⟨y, rfl, ha⟩ := ha
    obtain rfl : y = .ref a := ha
    obtain ⟨vs, h1, hr, _⟩ := Zp r hl
    exact join_listW h1.isList (by simpa using O1 hr hss) hx hw fun t' k => Xp h r ⟨t', rfl⟩ rfl rfl rfl
  | _ => exact False.elim h
end
end Mine
end
section
set_option maxRecDepth 100000
namespace Mine
open PySem PySem.Calls PyProof.Rows PySem.W
section
variable {prog : Program} {w : World} {A : Around} {E : Value → Shared → Prop} {fz : List Addr} {μ : MH} {s : Shared} {d : Nat}
inductive PostS (prog : Program) (w : World) (fz : List Addr) (μ : MH) (s : Shared) (Q : MH → Prop) (s' : Shared) : Prop
  | mk (μ' : MH) (q : Q μ') (r : RepH prog w μ' s'.heap) (g : Grow fz μ s μ' s')
theorem store_list {l : Addr} {items : Array Value} {n : Nat} {k : Int} {t : Tok} {v : Value} {j : Nat} {Q : Unit → Shared → Prop} (hl : s.heap.get? l = some { cls := .type "list", data := .seq items n })
    (hk : -(2 ^ 63) ≤ k ∧ k < 2 ^ 63) (hj : j < items.size) (hkj : k = j ∨ (k < 0 ∧ k + items.size = j))
    (hQ : Q () { s with heap := s.heap.update l (Obj.mapSeq (·.setIfInBounds j v)) }) : wpAny (model prog w) A (setItem (.ref l) (.int k t) v) Q E s := by
  have hL : s.heap.IsList l items := ⟨_, hl, rfl, n, rfl⟩
  unfold setItem
  try with_reducible refine wpAny_holding ?_
  first | refine wpAny_bind (wpAny_pure ?_) | skip
  refine wpAny_bind (wpAny_sequenceKey hL.typeIs (by decide) ?_)
  refine wpAny_bind (wpAny_callSpecial?_slot (name := Str.ofString "__setitem__") hL.typeIs slot_list_setitem
    (wpAny_call_entry slot_list_setitem hL.typeIs entry_list_setitem ?_ (args_list_setitem _ _ _)))
  show wpAny _ _ (Builtin.List.listSubscript? (.int k t) >>= _) _ _ s
  refine wpAny_bind (wpAny_listSubscript_int (by unfold Builtin.List.listFitsIndex; simp; (first|lia|omega)) ?_)
  have hx' : items[j]? = some items[j] := Array.getElem?_eq_getElem hj
  have fin : wpAny (model prog w) A.in1 (setSeqItemAt l j v) (fun _ s' => Q () s') E s := wpAny_setSeqItemAt hl rfl hQ
  cases k with
  | ofNat i =>
    have : i = j := by rcases hkj with h | h <;> simp at h <;> (first|lia|omega)
    subst this
    show wpAny _ _ ((seqItemAt l i >>= fun r => pure (r.map (i, ·))) >>= _) _ _ s
    refine wpAny_bind (wpAny_bind (wpAny_seqItemAt hl rfl (wpAny_pure ?_)))
    rw [hx']
    show wpAny _ _ (setSeqItemAt l i v >>= _) _ _ s
    refine wpAny_bind (wpAny_mono fin (fun _ s' hq => ?_) fun _ _ e => e)
    first
      | exact wpAny_bind (wpAny_pure (wpAny_pure ⟨.none, rfl, wpAny_pure hq⟩))
      | exact wpAny_pure ⟨.none, rfl, wpAny_pure hq⟩
  | negSucc i =>
    have hidx : seqIndex? (Int.negSucc i) items.size = some j := by
      unfold seqIndex?
      have h1 : Int.negSucc i < 0 := Int.negSucc_lt_zero i
      have h2 : Int.negSucc i + items.size = j := by rcases hkj with h | h; · (first|lia|omega)
                                                     · exact h.2
      simp only [h1, if_true, h2]
      simp; (first|lia|omega)
    show wpAny _ _ ((Builtin.List.listItems (.ref l) >>= fun xs => pure ((seqIndex? (Int.negSucc i) xs.size).bind fun i => xs[i]?.map (i, ·))) >>= _) _ _ s
    refine wpAny_bind (wpAny_bind ?_)
    show wpAny _ _ (seqItems? (.ref l) >>= _) _ _ s
    refine wpAny_bind (wpAny_seqItems hl rfl (wpAny_pure (wpAny_pure ?_)))
    rw [hidx]
    simp only [Option.bind_some, hx', Option.map_some]
    show wpAny _ _ (setSeqItemAt l j v >>= _) _ _ s
    refine wpAny_bind (wpAny_mono fin (fun _ s' hq => ?_) fun _ _ e => e)
    first
      | exact wpAny_bind (wpAny_pure (wpAny_pure ⟨.none, rfl, wpAny_pure hq⟩))
      | exact wpAny_pure ⟨.none, rfl, wpAny_pure hq⟩
theorem Pz {h : Heap} {m : MV} {v : Value} (hv : RepV h m v) : ∀ {l : List MV} {vs : List Value} (i : Nat), RepVs h l vs → RepVs h (l.set i m) (vs.set i v)
  | [], [], i => fun _ => trivial
  | _ :: _, _ :: _, 0 => fun x => by simp only [RepVs, List.set_cons_zero] at x ⊢; exact ⟨hv, x.2⟩
  | _ :: _, _ :: _, i + 1 => fun x => by simp only [RepVs, List.set_cons_succ] at x ⊢; exact ⟨x.1, Pz hv i x.2⟩
  | [], _ :: _, _ => fun x => by simp [RepVs] at x
  | _ :: _, [], _ => fun x => by simp [RepVs] at x
theorem set_odd {a : Addr} {l : List (Int × MV)} {i : MV} {y z : Value} {Q : MH → Prop} (hA : OkA d A) (q : μ a = some (.idict l)) (hi : RepV s.heap i y) (hok : oddOk l i = true) (hs : ∀ kv ∈ l, 0 ≤ kv.1 ∧ kv.1 ≤ 10000) (hn : fits l.length) (hf : a ∉ fz) (r : RepH prog w μ s.heap) (h : Q (upd μ a (.odict l i))) :
    wpAny (model prog w) A (setItem (.ref a) y z) (fun _ s' => PostS prog w fz μ s Q s') E s := by
  obtain ⟨kvs, ⟨o, es, ep, ho, hc, hd, hk, hp, hnd⟩, hr, hsy⟩ := r a _ q
  have hks : ∀ (P : Int → Prop), (∀ kv ∈ l, P kv.1) → ∀ kv ∈ kvs, P kv.1 := fun P hP kv hkv => by
    obtain ⟨j, hj⟩ := List.mem_iff_getElem?.mp hkv
    obtain ⟨m, hm, _⟩ := Z5 hr hj
    exact hP _ (List.mem_of_getElem? hm)
  have hsm : SmallKeys es := smallKeys hk hp (hks (fun k => 0 ≤ k ∧ k ≤ 10000) hs)
  have hz : es.size ≤ sizeLine := by rw [← Array.length_toList, hp.length, hr.length]; exact Xq hn
  have fin : ∀ (hsh : Int) (tk : Nat), (∀ (E : Value → Shared → Prop) (Q : Int → Shared → Prop), Q hsh { s with toks := s.toks + tk } → wpAny (model prog w) A.in1 (pyHash y) Q E s) → (∀ (E : Value → Shared → Prop) (Q : Option Nat → Shared → Prop), Q none { s with toks := s.toks + tk } → wpAny (model prog w) A.in1 (dictFind a y hsh) Q E { s with toks := s.toks + tk }) → (carriedByValue y = true ∨ ¬ (0 ≤ hsh ∧ hsh ≤ 10000)) → wpAny (model prog w) A (setItem (.ref a) y z) (fun _ s' => PostS prog w fz μ s Q s') E s := by
    intro hsh tk h1 h2 hb
    refine raw_set ⟨ho, hc, hd⟩ h1 h2 hz fun h' o' hR' hs' => ?_
    have kk : ∀ b o, b ≠ a → s.heap.get? b = some o → h'.get? b = some o := fun b o hb e => (hs'.2 b hb).trans e
    exact ⟨_, h, r.update q kk fun kt => ⟨o', es, ⟨hsh, y, z⟩, ep + 1, kvs, hR', hp, hr.keepT kt, hi.keepT kt, hsy, finds_push hR'.dat hsm hp hb⟩, Grow.update q hf kk⟩
  cases i with
  | none =>
    obtain rfl : y = .none := hi
    exact fin 0xFCA86420 1 (fun E Q hq => hash_none hq) (fun E Q hq => Vt (s := { s with toks := s.toks + 1 }) ho hd hsm trivial (fun e he => by
      obtain ⟨j, t, _, hh, _, h1⟩ := hsm e he
      rw [hh]; (first|lia|omega)) hq) (.inl rfl)
  | bool b =>
    obtain rfl : y = .bool b := hi
    obtain ⟨rfl, hno⟩ := Bool.and_eq_true_iff.mp hok
    refine fin 1 1 (fun E Q hq => hash_true hq) (fun E Q hq => Vt (s := { s with toks := s.toks + 1 }) ho hd hsm trivial (fun e he => ?_) hq) (.inl rfl)
    obtain ⟨kv, hkv, t, _, hh⟩ := keyIn hk hp he
    have hb := hks (fun k => 0 ≤ k ∧ k ≤ 10000) hs kv hkv
    rw [hh, Ui hb.1 hb.2]
    refine hks (fun k => k ≠ 1) (fun kv hkv e => ?_) kv hkv
    rw [Bool.not_eq_true', List.any_eq_false] at hno
    exact hno kv hkv (decide_eq_true e)
  | str x =>
    obtain ⟨t, rfl⟩ := hi
    exact fin _ 1 (fun E Q hq => wpAny_pyHash_str hq) (fun E Q hq => find_str (s := { s with toks := s.toks + 1 }) ho hd hsm hq) (.inl rfl)
  | tup l' =>
    match l', hok with
    | [.int j], hok =>
      obtain rfl : j = 1 := of_decide_eq_true hok
      obtain ⟨p, vs, n, rfl, hp', hv'⟩ := hi
      obtain ⟨v, rfl, t, rfl⟩ : ∃ v, vs = [v] ∧ ∃ t, v = .int 1 t := by
        cases vs with
        | nil => exact hv'.elim
        | cons v vs => cases vs with
          | nil => exact ⟨v, rfl, hv'.1⟩
          | cons _ _ => exact hv'.2.elim
      have hk' : IsTupleKey (intKind prog w) s.heap [1] p := ⟨_, _, n, hp', rfl, rfl, .cons (intKind_is prog w 1 t) .nil⟩
      refine fin (tupleKeyHash (intKind prog w) [1]) 2 (fun E Q hq => wpAny_pyHash_tuple (by have := hA.units; show A.units + 1 < cLine; (first|lia|omega)) hk' hq) (fun E Q hq => Vt (s := { s with toks := s.toks + 2 }) ho hd hsm trivial (fun e he => ?_) hq) (.inr one_hash)
      obtain ⟨j, t, _, hh, h0, h1⟩ := hsm e he
      rw [hh]
      exact fun q => one_hash (prog := prog) (w := w) (q ▸ ⟨h0, h1⟩)
  | _ => cases hok
theorem op_set {o i v : MV} {x y z : Value} {Q : MH → Prop} (hA : OkA d A) (ho : RepV s.heap o x) (hi : RepV s.heap i y) (hv : RepV s.heap v z) (r : RepH prog w μ s.heap) (h : setM fz o i v Q μ) :
    wpAny (model prog w) A (setItem x y z) (fun _ s' => PostS prog w fz μ s Q s') E s := by
  replace h := Jj h; obtain ⟨a, rfl, hf, h⟩ := h
  obtain rfl : x = .ref a := ho
  cases q : μ a with
  | none => rw [q] at h; exact False.elim h
  | some mo =>
    rw [q] at h
    cases mo with
    | list l =>
      replace h := intV_inv h; obtain ⟨k, rfl, h⟩ := h
      obtain ⟨hn, l', hs, h⟩ := h
      obtain ⟨t, rfl⟩ := hi
      obtain ⟨vs, ⟨n, h1⟩, hr⟩ := r a _ q
      have hl := hr.length
      have hfit := Xq hn
      have key : ∃ j, j < vs.length ∧ l' = l.set j v ∧ (k = j ∨ (k < 0 ∧ k + vs.length = j)) := by
        unfold setAt at hs
        split at hs
        · split at hs
          · cases hs; exact ⟨k.toNat, by (first|lia|omega), rfl, .inl (by (first|lia|omega))⟩
          · cases hs
        · split at hs
          · cases hs; exact ⟨(k + l.length).toNat, by (first|lia|omega), rfl, .inr ⟨by (first|lia|omega), by (first|lia|omega)⟩⟩
          · cases hs
      obtain ⟨j, hj, rfl, hkj⟩ := key
      unfold fits at hn
      refine store_list h1 (by (first|lia|omega)) (j := j) (by simpa using hj) (by simpa using hkj) ?_
      have kk : ∀ b o, b ≠ a → s.heap.get? b = some o → (s.heap.update a (Obj.mapSeq (·.setIfInBounds j z))).get? b = some o := fun b o hb e => (Heap.get?_update_other _ _ (Ne.symm hb)).trans e
      refine ⟨_, h, r.update q kk fun kt => ⟨vs.set j z, ?_, (Pz hv j hr).keepT kt⟩, Grow.update (tk := s.toks) q hf kk⟩
      have := Heap.get?_update_self (Obj.mapSeq (·.setIfInBounds j z)) h1 rfl
      refine ⟨n, ?_⟩
      rw [this]
      simp [Obj.mapSeq]
    | idict l =>
      by_cases hik : ∃ k, i = .int k
      case neg =>
        have h : (oddOk l i = true ∧ ∀ kv ∈ l, 0 ≤ kv.1 ∧ kv.1 ≤ 10000) ∧ fits l.length ∧ Q (upd μ a (.odict l i)) := by
          cases i <;> first | exact h | exact absurd ⟨_, rfl⟩ hik
        exact set_odd hA q hi h.1.1 h.1.2 h.2.1 hf r h.2.2
      obtain ⟨k, rfl⟩ := hik
      obtain ⟨hn, h⟩ : fits l.length ∧ Q (upd μ a (.idict (putI l k v))) := h
      obtain ⟨t, rfl⟩ := hi
      obtain ⟨kvs, hd, hk, hs⟩ := r a _ q
      have hl := hk.length
      refine wpAny_setItem_pairs (intKind_is prog w k t) hd (fun h' hd' hs' => ?_) (by have := Xq hn; (first|lia|omega))
      have kk : ∀ b o, b ≠ a → s.heap.get? b = some o → h'.get? b = some o := fun b o hb e => (hs'.2 b hb).trans e
      exact ⟨_, h, r.update q kk fun kt => ⟨_, hd', (A0 k hv hk).keepT kt, hs⟩, Grow.update q hf kk⟩
    | odict l x => exact False.elim h
theorem eqAt_of {a b : MV} {x y : Value} {r' : Bool} (hA : OkA d A) (ha : RepV s.heap a x) (hb : RepV s.heap b y) (r : RepH prog w μ s.heap) (e : eqD μ a b = some r') : SeqAt.EqAt A.in1 s x y r' := by
  unfold eqD at e
  split at e
  · rename_i d1 d2 e1 e2
    cases e
    obtain ⟨as, a1, a2, a3⟩ := Y6 r 9 a x d1 e1 ha
    obtain ⟨bs, b1, b2, b3⟩ := Y6 r 9 b y d2 e2 hb
    exact SeqAt.eqAt_reads d1 d2 A.in1 s x y as bs a1 b1 a2 b2 (by have := hA.units; simp; (first|lia|omega))
  · cases e
theorem hits_of {K : Type} [DecidableEq K] (hA : OkA d A) (r : RepH prog w μ s.heap) {y : List (K × MV)} {kb : List (K × Value)} (hy : RepKV s.heap y kb) :
    ∀ {x : List (K × MV)} {ka : List (K × Value)} {bs : List Bool}, RepKV s.heap x ka → (x.mapM fun (kv : K × MV) => match lookI y kv.1 with | some v => eqD μ kv.2 v | none => some false) = some bs → KeqHits A.in1 s kb ka (bs.all id)
  | [], [], bs => fun _ e => by simp at e; subst e; exact .nil
  | m :: ms, v :: vs, bs => fun h e => by
    simp only [RepKV] at h
    rw [List.mapM_cons] at e
    simp only [Option.bind_eq_bind, Option.bind_eq_some_iff, Option.pure_def, Option.some.injEq] at e
    obtain ⟨b, e1, bs', e2, rfl⟩ := e
    have ih := hits_of hA r hy h.2.2 e2
    rcases Z4 v.1 hy with ⟨q1, q2⟩ | ⟨m', u, q1, q2, hu⟩
    · rw [h.1, q1] at e1
      cases e1
      simp only [List.all_cons, id, Bool.false_and]
      exact .miss (k := v.1) (v := v.2) q2
    · rw [h.1, q1] at e1
      simp only [List.all_cons, id]
      exact .hit (k := v.1) (v := v.2) q2 (eqAt_of hA h.2.1 hu r e1) ih
  | [], _ :: _, _ => fun h _ => by simp [RepKV] at h
  | _ :: _, [], _ => fun h _ => by simp [RepKV] at h
theorem op_eqM {neg : Bool} {a b : MV} {x y : Value} {r' : Bool} (ha : RepV s.heap a x) (hb : RepV s.heap b y) (r : RepH prog w μ s.heap) (hA : OkA d A) (e : eqM μ a b = some r')
    {Q : Value → Shared → Prop} (h : Q (.bool (if neg then !r' else r')) s) : wpAny (model prog w) A (compareOp (if neg then .NotEq else .Eq) x y) Q E s := by
  have dicts : ∀ {K : Type} [DecidableEq K] (knd : PySem.KeyKind prog w K) (p q : Addr) (lx ly : List (K × MV)) (ka kb : List (K × Value)), x = .ref p → y = .ref q → s.heap.DictOf knd p ka → s.heap.DictOf knd q kb → RepKV s.heap lx ka → RepKV s.heap ly kb →
      (p == sysModules) = false → (q == sysModules) = false → eqDicts μ lx ly = some r' → wpAny (model prog w) A (compareOp (if neg then .NotEq else .Eq) x y) Q E s := by
    intro K _ knd p q lx ly ka kb hx hy da db ra rb sa sb e
    subst hx; subst hy
    have hu : A.units < cLine := by have := hA.units; (first|lia|omega)
    have la := ra.length; have lb := rb.length
    unfold eqDicts at e
    split at e
    · rename_i hl
      obtain ⟨bs, hbs, rfl⟩ := Option.map_eq_some_iff.mp e
      have hits := hits_of hA r rb ra hbs
      have hr : (ka.length == kb.length && bs.all id) = bs.all id := by
        have : (ka.length == kb.length) = true := by simp; (first|lia|omega)
        rw [this, Bool.true_and]
      cases neg
      · exact keq_eq sa sb da db hu (fun _ => hits) (by rw [hr]; exact h)
      · exact keq_ne sa sb da db hu (fun _ => hits) (by rw [hr]; exact h)
    · rename_i hl
      cases e
      have hne : ka.length ≠ kb.length := by (first|lia|omega)
      have hr : (ka.length == kb.length && false) = false := by simp
      cases neg
      · exact keq_eq (r := false) sa sb da db hu (fun q => absurd q hne) (by rw [hr]; exact h)
      · exact keq_ne (r := false) sa sb da db hu (fun q => absurd q hne) (by rw [hr]; exact h)
  unfold eqM at e
  split at e
  · rename_i p q
    simp only [RepV] at ha hb
    split at e
    · rename_i lx ly h1 h2
      obtain ⟨ka, da, ra, sa⟩ := r p _ h1
      obtain ⟨kb, db, rb, sb⟩ := r q _ h2
      exact dicts _ p q lx ly ka kb ha hb da db ra rb sa sb e
    · exact op_eq (by simpa only [RepV] using ha) (by simpa only [RepV] using hb) r hA e h
  · exact op_eq ha hb r hA e h
theorem Nf {a b : MV} {r : Bool} (e : isNoneO a b = some r) : b = .none ∧ isNoneO a .none = some r := by
  cases b <;> first | (cases e; done) | exact ⟨rfl, e⟩
theorem noneV {h : Heap} {a : MV} {x : Value} {r : Bool} (ha : RepV h a x) (e : isNoneO a .none = some r) : (x == Value.none) = r := by
  cases a with
  | none => obtain rfl : x = .none := ha; exact Option.some.inj e
  | bool b => obtain rfl : x = .bool b := ha; exact Option.some.inj e
  | int i => obtain ⟨t, rfl⟩ := ha; exact Option.some.inj e
  | str i => obtain ⟨t, rfl⟩ := ha; exact Option.some.inj e
  | tup l => obtain ⟨p, _, _, rfl, _⟩ := ha; exact Option.some.inj e
  | ref p => obtain rfl : x = .ref p := ha; exact Option.some.inj e
  | keys p => cases e
  | vals p => cases e
theorem Az {op : COp} {o : CmpOp} {a b : MV} {x y : Value} {r' : Bool} (ho : copIs op o = true) (ha : RepV s.heap a x) (hb : RepV s.heap b y) (r : RepH prog w μ s.heap) (hA : OkA d A) (e : cmpM op μ a b = some r')
    {Q : Value → Shared → Prop} (h : ∀ s', Still s s' → Q (.bool r') s') : wpAny (model prog w) A (compareOp o x y) Q E s := by
  obtain rfl := of_decide_eq_true ho
  cases op with
  | eq => exact op_eqM (neg := false) ha hb r hA e (h s .refl)
  | ne =>
    obtain ⟨r'', e', rfl⟩ := Option.map_eq_some_iff.mp e
    exact op_eqM (neg := true) ha hb r hA e' (h s .refl)
  | isin => exact op_in (neg := false) ha hb r hA e h
  | notin =>
    obtain ⟨r'', e', rfl⟩ := Option.map_eq_some_iff.mp e
    exact op_in (neg := true) ha hb r hA e' h
  | lt =>
    obtain ⟨_, _, rfl, rfl, rfl⟩ := Ky e
    obtain ⟨t, rfl⟩ := ha; obtain ⟨u, rfl⟩ := hb
    exact PyProof.Rows.lt_int (h s .refl)
  | le =>
    obtain ⟨_, _, rfl, rfl, rfl⟩ := Ky e
    obtain ⟨t, rfl⟩ := ha; obtain ⟨u, rfl⟩ := hb
    exact PyProof.Rows.le_int (h s .refl)
  | gt =>
    obtain ⟨_, _, rfl, rfl, rfl⟩ := Ky e
    obtain ⟨t, rfl⟩ := ha; obtain ⟨u, rfl⟩ := hb
    exact PyProof.Rows.gt_int (h s .refl)
  | ge =>
    obtain ⟨_, _, rfl, rfl, rfl⟩ := Ky e
    obtain ⟨t, rfl⟩ := ha; obtain ⟨u, rfl⟩ := hb
    exact PyProof.Rows.ge_int (h s .refl)
  | is =>
    obtain ⟨rfl, e2⟩ := Nf e
    obtain rfl : y = .none := hb
    exact is_none_gen (by rw [noneV ha e2]; exact h s .refl)
  | isnot =>
    obtain ⟨r'', e', rfl⟩ := Option.map_eq_some_iff.mp e
    obtain ⟨rfl, e2⟩ := Nf e'
    obtain rfl : y = .none := hb
    exact isnot_none_gen (by rw [noneV ha e2]; exact h s .refl)
end
end Mine
end
section
namespace Mine
open PySem PySem.Calls PyProof.Rows PySem.W
noncomputable def biTab : List (String × Value) := [("len", .builtin "len"), ("min", .builtin "min"), ("max", .builtin "max"), ("sorted", .builtin "sorted"), ("all", .builtin "all"), ("isinstance", .builtin "isinstance"),
  ("list", .type "list"), ("dict", .type "dict"), ("int", .type "int"), ("bool", .type "bool"), ("str", .type "str"), ("tuple", .type "tuple"), ("range", .type "range"), ("reversed", .type "reversed"), ("zip", .type "zip"), ("set", .type "set")]
structure PG (prog : Program) (w : World) (G : String → Option MV) (Γ : String → Option MFun) (h₀ : Heap) (mg mb : Str → Option Value) : Prop where
  g : h₀.Ns mainGlobals mg
  b : h₀.Ns builtinsNs mb
  nolimit : h₀.NoLimit
  bi : ∀ p ∈ biTab, mg (Str.ofString p.1) = none ∧ mb (Str.ofString p.1) = some p.2
  fn : ∀ f fd, Γ f = some fd → ∃ a o pm code doc params body scope tab funs, mg (Str.ofString f) = some (.ref a) ∧ h₀.get? a = some o ∧ o.data = .func (docDef (Str.ofString f) params body scope pm code doc) ∧
    h₀.CodeRec code (Str.ofString f) ∧ isFun fd tab funs params body scope = true ∧ ∀ g ∈ funs, ∃ fd', Γ g = some fd'
  const : ∀ g v, G g = some v → ∃ val, mg (Str.ofString g) = some val ∧ ((∃ i t, v = .int i ∧ val = .int i t) ∨ ∃ x t, v = .str x ∧ val = .str x t)
noncomputable def VarAt (env : Env) (m : Str → Option Value) (h : Heap) (x : Str) (v : Value) : Prop := match env.kindOf x with
  | some .local => m x = some v
  | some .cell => ∃ c, env.cells.lookup x = some c ∧ h.IsCell c (some v)
  | some .free => ∃ c, env.cells.lookup x = some c ∧ h.IsCell c (some v)
  | _ => False
structure RepF (S : Sc) (env : Env) (vars : MVars) (μ : MH) (h : Heap) : Prop where
  names : env.scope.names = S.names
  inj : ∀ i j x, S.tab.lookup i = some x → S.tab.lookup j = some x → i = j
  nk : (S.tab.map (·.1)).Nodup
  nv : (S.tab.map (·.2)).Nodup
  kind : env.scope.kind = .function
  glob : env.globals = mainGlobals
  bui : env.builtins = builtinsNs
  ns : ∃ m, h.Ns env.locals m ∧ ∀ i x mv, S.tab.lookup i = some x → kindVar (S.names.lookup x) = true → vars i = some mv → ∃ v, RepV h mv v ∧ VarAt env m h x v
  cells : ∀ x, (env.kindOf x = some .cell ∨ env.kindOf x = some .free) → ∃ c, env.cells.lookup x = some c
  apart : env.cells.Pairwise fun x y => x.2 ≠ y.2
  fixl : μ env.locals = none
  fixc : ∀ x c, (x, c) ∈ env.cells → μ c = none ∧ c ≠ env.locals ∧ ∃ v, h.IsCell c v
theorem RepF.keep {S : Sc} {env : Env} {vars : MVars} {μ μ' : MH} {h h' : Heap} (F : RepF S env vars μ h) (kt : KeepsT h h') (kl : ∀ o, h.get? env.locals = some o → h'.get? env.locals = some o ∧ μ' env.locals = none) (kc : ∀ x c, (x, c) ∈ env.cells → ∀ o, h.get? c = some o → h'.get? c = some o ∧ μ' c = none) : RepF S env vars μ' h' where
  names := F.names
  inj := F.inj
  nk := F.nk
  nv := F.nv
  kind := F.kind
  glob := F.glob
  bui := F.bui
  ns := by
    obtain ⟨m, hn, hv⟩ := F.ns
    refine ⟨m, hn.at' fun o e => (kl o e).1, fun i x mv h1 h2 h3 => ?_⟩
    obtain ⟨v, r, va⟩ := hv i x mv h1 h2 h3
    refine ⟨v, r.keepT kt, ?_⟩
    unfold VarAt at va ⊢
    split at va
    · exact va
    · obtain ⟨c, e, o, ho, hd⟩ := va; exact ⟨c, e, o, (kc _ _ (mem_of_lookup e) o ho).1, hd⟩
    · obtain ⟨c, e, o, ho, hd⟩ := va; exact ⟨c, e, o, (kc _ _ (mem_of_lookup e) o ho).1, hd⟩
    · exact va.elim
  cells := F.cells
  apart := F.apart
  fixl := by obtain ⟨m, ⟨o, es, ep, ho, _⟩, _⟩ := F.ns; exact (kl o ho).2
  fixc := fun x c hm => by
    obtain ⟨h1, h2, v, o, ho, hd⟩ := F.fixc x c hm
    exact ⟨(kc x c hm o ho).2, h2, v, o, (kc x c hm o ho).1, hd⟩
noncomputable def Base (h₀ : Heap) (fz : List Addr) (μ : MH) (s : Shared) : Prop := ∀ b o, h₀.get? b = some o → s.heap.get? b = some o ∧ (μ b = none ∨ b ∈ fz)
theorem Base.grow {h₀ : Heap} {fz : List Addr} {μ μ' : MH} {s s' : Shared} (B : Base h₀ fz μ s) (g : Grow fz μ s μ' s') : Base h₀ fz μ' s' := fun b o e => by
  obtain ⟨e1, f⟩ := B b o e
  obtain ⟨e2, q⟩ := g.keep b o f e1
  exact ⟨e2, f.imp (fun z => q.trans z) id⟩
noncomputable def FnAt (h₀ : Heap) (f : String) (fa : Addr) : Prop := ∃ m, h₀.Ns mainGlobals m ∧ m (Str.ofString f) = some (.ref fa) ∧ ∃ o fd, h₀.get? fa = some o ∧ o.data = .func fd
structure Cur (prog : Program) (w : World) (h₀ : Heap) (S : Sc) (env : Env) (vars : MVars) (fz : List Addr) (μ : MH) (s : Shared) : Prop where
  base : Base h₀ fz μ s
  heap : RepH prog w μ s.heap
  fzin : FzIn fz μ
  fr : RepF S env vars μ s.heap
  newl : h₀.get? env.locals = none
  newc : ∀ x c, (x, c) ∈ env.cells → h₀.get? c = none
  known : ∀ f ∈ S.funs, ∃ fa, FnAt h₀ f fa
theorem Cur.grow {prog : Program} {w : World} {h₀ : Heap} {S : Sc} {env : Env} {vars : MVars} {fz : List Addr} {μ μ' : MH} {s s' : Shared} (C : Cur prog w h₀ S env vars fz μ s) (g : Grow fz μ s μ' s') (r : RepH prog w μ' s'.heap) :
    Cur prog w h₀ S env vars fz μ' s' where
  base := C.base.grow g
  heap := r
  fzin := C.fzin.grow C.heap g
  fr := C.fr.keep (g.keepT C.heap) (fun o e => (g.keep _ o (.inl C.fr.fixl) e).imp id fun q => q.trans C.fr.fixl) fun x c hm o e => (g.keep c o (.inl (C.fr.fixc x c hm).1) e).imp id fun q => q.trans (C.fr.fixc x c hm).1
  newl := C.newl
  newc := C.newc
  known := C.known
structure GrowS (env : Env) (fz : List Addr) (μ : MH) (s : Shared) (μ' : MH) (s' : Shared) : Prop where
  keep : ∀ b o, (μ b = none ∨ b ∈ fz) → b ≠ env.locals → (∀ x c, (x, c) ∈ env.cells → b ≠ c) → s.heap.get? b = some o → s'.heap.get? b = some o ∧ μ' b = μ b
  os : s'.os = s.os
  gens : s'.gens = s.gens
theorem GrowS.refl {env : Env} {fz : List Addr} {μ : MH} {s : Shared} : GrowS env fz μ s μ s := ⟨fun _ _ _ _ _ e => ⟨e, rfl⟩, rfl, rfl⟩
theorem GrowS.trans {env : Env} {fz : List Addr} {μ μ₁ μ₂ : MH} {s s₁ s₂ : Shared} (x : GrowS env fz μ s μ₁ s₁) (y : GrowS env fz μ₁ s₁ μ₂ s₂) : GrowS env fz μ s μ₂ s₂ :=
  ⟨fun b o f l c e => by
    obtain ⟨e1, q1⟩ := x.keep b o f l c e
    obtain ⟨e2, q2⟩ := y.keep b o (f.imp (fun z => q1.trans z) id) l c e1
    exact ⟨e2, q2.trans q1⟩, y.os.trans x.os, y.gens.trans x.gens⟩
theorem Grow.toS {env : Env} {fz : List Addr} {μ μ' : MH} {s s' : Shared} (x : Grow fz μ s μ' s') : GrowS env fz μ s μ' s' := ⟨fun b o f _ _ e => x.keep b o f e, x.os, x.gens⟩
theorem GrowS.weak {env : Env} {fz cs : List Addr} {μ μ' : MH} {s s' : Shared} (x : GrowS env (cs ++ fz) μ s μ' s') : GrowS env fz μ s μ' s' :=
  ⟨fun b o f l c e => x.keep b o (f.imp id fun m => List.mem_append_right _ m) l c e, x.os, x.gens⟩
section
variable {prog : Program} {w : World} {h₀ : Heap} {S : Sc} {env : Env} {vars : MVars} {fz : List Addr} {μ : MH} {s : Shared} {A : Around} {E : Value → Shared → Prop}
theorem Uf {l : List (Str × Addr)} (h : l.Pairwise fun x y => x.2 ≠ y.2) {x y : Str} {c : Addr} (h1 : l.lookup x = some c) (h2 : l.lookup y = some c) : x = y := name_of_addr h (mem_of_lookup h1) (mem_of_lookup h2)
theorem Zx {M : Model} {i : Nat} {x : Str} {mv : MV} {Q : Value → Shared → Prop} (C : Cur prog w h₀ S env vars fz μ s) (ht : S.isVar i x = true) (hv : vars i = some mv)
    (h : ∀ v, RepV s.heap mv v → Q v s) : wpAny M A (loadName env x) Q E s := by
  unfold Sc.isVar notDebug at ht
  simp only [Bool.and_eq_true, beq_iff_eq, Bool.not_eq_true'] at ht
  obtain ⟨⟨ht, hk⟩, hd, hcd⟩ := ht
  obtain ⟨m, hn, hm⟩ := C.fr.ns
  obtain ⟨v, r, va⟩ := hm i x mv ht hk hv
  unfold VarAt at va
  split at va
  · rename_i q; exact wpAny_loadName_local C.fr.kind q hn va (h v r)
  · rename_i q; obtain ⟨c, e, hc⟩ := va; exact wpAny_loadName_cell C.fr.kind q e hc (h v r)
  · rename_i q
    obtain ⟨c, e, hc⟩ := va
    exact wpAny_loadName_free C.fr.kind q e hc (h v r) hcd
  · exact va.elim
theorem Zr {M : Model} {i : Nat} {x : Str} {mv : MV} {v : Value} {Q : Unit → Shared → Prop} (C : Cur prog w h₀ S env vars fz μ s) (ht : S.isSt i x = true) (hv : RepV s.heap mv v)
    (h : ∀ s', Cur prog w h₀ S env (setv vars i mv) fz μ s' → GrowS env fz μ s μ s' → KeepsT s.heap s'.heap → (S.names.lookup x = some .local → ∀ b o, b ≠ env.locals → s.heap.get? b = some o → s'.heap.get? b = some o) → Q () s') : wpAny M A (storeName env x v) Q E s := by
  unfold Sc.isSt at ht
  simp only [Bool.and_eq_true, beq_iff_eq] at ht
  obtain ⟨ht, hk⟩ := ht
  have hko : env.kindOf x = S.names.lookup x := by unfold Env.kindOf; rw [C.fr.names]
  obtain ⟨m, hn, hm⟩ := C.fr.ns
  have fin : ∀ (c : Addr) (h' : Heap) (tk : Nat), (c = env.locals ∨ ∃ y, (y, c) ∈ env.cells) → (∃ o, s.heap.get? c = some o ∧ ¬ ImmCls o) → (∀ b, b ≠ c → h'.get? b = s.heap.get? b) → (S.names.lookup x = some .local → c = env.locals) →
      (KeepsT s.heap h' → RepF S env (setv vars i mv) μ h') → Q () { s with heap := h', toks := tk } := by
    intro c h' tk hc hobj hs hloc hF
    obtain ⟨oc, hoc, hni⟩ := hobj
    have mc : μ c = none := by rcases hc with rfl | ⟨y, hy⟩; exact C.fr.fixl; exact (C.fr.fixc y c hy).1
    have kt : KeepsT s.heap h' := fun b o e hi => by
      by_cases q : b = c
      · subst q; rw [hoc] at e; cases e; exact absurd hi hni
      · rw [hs b q]; exact e
    have h0 : h₀.get? c = none := by rcases hc with rfl | ⟨y, hy⟩; exact C.newl; exact C.newc y c hy
    refine h _ ⟨fun b o e => ?_, fun a o e => ?_, C.fzin, hF kt, C.newl, C.newc, C.known⟩ ⟨fun b o f l hcs e => ?_, rfl, rfl⟩ kt fun hl b o hb e => by show h'.get? b = some o; rw [hs b (fun q => hb (q.trans (hloc hl)))]; exact e
    · have := C.base b o e
      refine ⟨?_, this.2⟩
      show h'.get? b = some o
      rw [hs b (fun q => by rw [q, h0] at e; cases e)]; exact this.1
    · have hac : a ≠ c := fun q => by rw [q, mc] at e; cases e
      exact (C.heap a o e).keeps kt fun y hy => by show h'.get? a = some y; rw [hs a hac]; exact hy
    · refine ⟨?_, rfl⟩
      show h'.get? b = some o
      rw [hs b (fun q => by subst q; rcases hc with q | ⟨y, hy⟩; exact l q; exact hcs y b hy rfl)]; exact e
  have base := C.fr
  have hk : S.names.lookup x = some .local ∨ S.names.lookup x = some .cell := by simpa only [kindSt, Bool.or_eq_true, decide_eq_true_eq] using hk
  rcases hk with q | q
  · skip
    have hl : env.kindOf x = some .local := hko.trans q
    obtain ⟨ol, es, ep, hol, hdl, _⟩ := id hn
    refine wpAny_storeName_local hl hn (fun h' hn' hs' => fin env.locals h' _ (.inl rfl) ⟨ol, hol, by rintro (⟨_, _, _, q⟩ | ⟨_, _, q⟩ | ⟨_, _, q⟩) <;> rw [hdl] at q <;> cases q⟩ hs'.2 (fun _ => rfl) fun kt => ?_) (by rw [C.fr.kind]; rfl)
    refine { names := base.names, inj := base.inj, nk := base.nk, nv := base.nv, kind := base.kind, glob := base.glob, bui := base.bui, cells := base.cells, apart := base.apart, fixl := base.fixl, fixc := ?fx, ns := ⟨_, hn', fun j y mv' h1 h2 h3 => ?nn⟩ }
    case fx =>
      intro y c hm'
      obtain ⟨a1, a2, u, o, ho, hd⟩ := base.fixc y c hm'
      exact ⟨a1, a2, u, o, by rw [hs'.2 c a2]; exact ho, hd⟩
    case nn =>
      by_cases hji : j = i
      · subst hji
        rw [ht] at h1; cases h1
        simp only [setv, if_true, Option.some.injEq] at h3
        subst h3
        refine ⟨v, hv.keepT kt, ?_⟩
        unfold VarAt; rw [hl]; simp
      · simp only [setv, if_neg hji] at h3
        obtain ⟨u, r, va⟩ := hm j y mv' h1 h2 h3
        refine ⟨u, r.keepT kt, ?_⟩
        have hyx : y ≠ x := fun e => hji (base.inj j i x (e ▸ h1) ht)
        unfold VarAt at va ⊢
        split at va
        · simp only [if_neg hyx]; exact va
        · obtain ⟨c, e, o, ho, hd⟩ := va
          exact ⟨c, e, o, by rw [hs'.2 c (base.fixc _ _ (mem_of_lookup e)).2.1]; exact ho, hd⟩
        · obtain ⟨c, e, o, ho, hd⟩ := va
          exact ⟨c, e, o, by rw [hs'.2 c (base.fixc _ _ (mem_of_lookup e)).2.1]; exact ho, hd⟩
        · exact va.elim
  · skip
    have hl : env.kindOf x = some .cell := hko.trans q
    obtain ⟨c, hc⟩ := base.cells x (.inl hl)
    obtain ⟨a1, a2, u0, hu0⟩ := base.fixc x c (mem_of_lookup hc)
    obtain ⟨oc, hoc, hdc⟩ := id hu0
    refine wpAny_storeName_cell C.fr.kind hl hc hu0 fun h' hc' hs' => fin c h' s.toks (.inr ⟨x, mem_of_lookup hc⟩) ⟨oc, hoc, by rintro (⟨_, _, _, q⟩ | ⟨_, _, q⟩ | ⟨_, _, q⟩) <;> rw [hdc] at q <;> cases q⟩ hs'.2 (fun q' => by rw [q] at q'; cases q') fun kt => ?_
    refine { names := base.names, inj := base.inj, nk := base.nk, nv := base.nv, kind := base.kind, glob := base.glob, bui := base.bui, cells := base.cells, apart := base.apart, fixl := base.fixl, fixc := ?fx, ns := ⟨m, hn.at' fun o e => by rw [hs'.2 _ (Ne.symm a2)]; exact e, fun j y mv' h1 h2 h3 => ?nn⟩ }
    case fx =>
      intro y c' hm'
      obtain ⟨b1, b2, u, o, ho, hd⟩ := base.fixc y c' hm'
      by_cases hcc : c' = c
      · subst hcc; obtain ⟨o', ho', hd'⟩ := hc'; exact ⟨b1, b2, _, o', ho', hd'⟩
      · exact ⟨b1, b2, u, o, by rw [hs'.2 c' hcc]; exact ho, hd⟩
    case nn =>
      by_cases hji : j = i
      · subst hji
        rw [ht] at h1; cases h1
        simp only [setv, if_true, Option.some.injEq] at h3
        subst h3
        refine ⟨v, hv.keepT kt, ?_⟩
        unfold VarAt; rw [hl]; exact ⟨c, hc, hc'⟩
      · simp only [setv, if_neg hji] at h3
        obtain ⟨u, r, va⟩ := hm j y mv' h1 h2 h3
        refine ⟨u, r.keepT kt, ?_⟩
        have hyx : y ≠ x := fun e => hji (base.inj j i x (e ▸ h1) ht)
        unfold VarAt at va ⊢
        split at va
        · exact va
        · obtain ⟨c', e, o, ho, hd⟩ := va
          exact ⟨c', e, o, by rw [hs'.2 c' (fun q => hyx (Uf base.apart e (q ▸ hc)))]; exact ho, hd⟩
        · obtain ⟨c', e, o, ho, hd⟩ := va
          exact ⟨c', e, o, by rw [hs'.2 c' (fun q => hyx (Uf base.apart e (q ▸ hc)))]; exact ho, hd⟩
        · exact va.elim
end
end Mine
end
section
namespace Mine
open PySem PySem.Calls PyProof.Rows PySem.W
noncomputable def X0 : MX := fun _ _ => False
section
variable (prog : Program) (w : World) (G : String → Option MV) (h₀ : Heap) (Φ : CallSpec) (d : Nat)
inductive PostB (fz : List Addr) (μ : MH) (s : Shared) (F : Bool → MH → Prop) (b : Bool) (s' : Shared) : Prop
  | mk (μ' : MH) (q : F b μ') (r : RepH prog w μ' s'.heap) (g : Grow fz μ s μ' s')
inductive PostL (fz : List Addr) (μ : MH) (s : Shared) (Q : List MV → MH → Prop) (vs : List Value) (s' : Shared) : Prop
  | mk (ms : List MV) (μ' : MH) (q : Q ms μ') (rv : RepVs s'.heap ms vs) (r : RepH prog w μ' s'.heap) (g : Grow fz μ s μ' s')
noncomputable def SC : Prop := ∀ (f : String) (vs : List MV) (vals : List Value) (fz : List Addr) (μ : MH) (s : Shared) (Q : MQ) (A : Around) (E : Value → Shared → Prop) (fa : Addr), OkA d A → Base h₀ fz μ s → RepH prog w μ s.heap → FzIn fz μ →
  RepVs s.heap vs vals → FnAt h₀ f fa → Φ f vs fz Q X0 μ → wpAny (model prog w) A (call (.ref fa) vals) (PostV prog w fz μ s Q) E s
noncomputable def SE (e : ME) : Prop := ∀ (S : Sc) (x : PySem.Expr) (env : Env) (vars : MVars) (fz : List Addr) (μ : MH) (s : Shared) (Q : MQ) (A : Around) (E : Value → Shared → Prop), isE S e x = true → OkA d A → Cur prog w h₀ S env vars fz μ s →
  ev G Φ X0 e fz vars Q μ → wpAny (model prog w) A (eval x env) (PostV prog w fz μ s Q) E s
noncomputable def ST (e : ME) : Prop := ∀ (S : Sc) (x : PySem.Expr) (env : Env) (vars : MVars) (fz : List Addr) (μ : MH) (s : Shared) (F : Bool → MH → Prop) (A : Around) (E : Value → Shared → Prop), isE S e x = true → OkA d A → Cur prog w h₀ S env vars fz μ s →
  ev G Φ X0 e fz vars (fun v μ' => ∃ b, truthy μ' v = some b ∧ F b μ') μ → wpAny (model prog w) A (isTrue x env (eval x env)) (PostB prog w fz μ s F) E s
noncomputable def SS (e : ME) : Prop := SE prog w G h₀ Φ d e ∧ ST prog w G h₀ Φ d e
end
section
variable {prog : Program} {w : World} {G : String → Option MV} {Γ : String → Option MFun} {h₀ : Heap} {mg mb : Str → Option Value} {Φ : CallSpec} {d : Nat}
  {S : Sc} {env : Env} {vars : MVars} {fz : List Addr} {μ : MH} {s : Shared} {A : Around} {E : Value → Shared → Prop}
theorem PostV.trans {Q : MQ} {μ₁ : MH} {s₁ : Shared} (g : Grow fz μ s μ₁ s₁) {v : Value} {s' : Shared} (h : PostV prog w fz μ₁ s₁ Q v s') : PostV prog w fz μ s Q v s' :=
  let ⟨mv, μ', q, r, hr, g'⟩ := h; ⟨mv, μ', q, r, hr, g.trans g'⟩
theorem PostB.trans {F : Bool → MH → Prop} {μ₁ : MH} {s₁ : Shared} (g : Grow fz μ s μ₁ s₁) {b : Bool} {s' : Shared} (h : PostB prog w fz μ₁ s₁ F b s') : PostB prog w fz μ s F b s' :=
  let ⟨μ', q, hr, g'⟩ := h; ⟨μ', q, hr, g.trans g'⟩
theorem PostL.trans {Q : List MV → MH → Prop} {μ₁ : MH} {s₁ : Shared} (g : Grow fz μ s μ₁ s₁) {v : List Value} {s' : Shared} (h : PostL prog w fz μ₁ s₁ Q v s') : PostL prog w fz μ s Q v s' :=
  let ⟨mv, μ', q, r, hr, g'⟩ := h; ⟨mv, μ', q, r, hr, g.trans g'⟩
theorem Still.grow {s' : Shared} (st : Still s s') : Grow fz μ s μ s' := ⟨fun b o _ e => ⟨by rw [st.1]; exact e, rfl⟩, st.2.1, st.2.2⟩
theorem isE_starred (e : ME) (v : PySem.Expr) (p : Pos) : isE S e (.Starred v p) = false := by
  cases e <;> (try rfl)
  rename_i f args; cases f <;> rfl
theorem isE_slice (e : ME) (l u t : Option PySem.Expr) (p : Pos) : isE S e (.Slice l u t p) = false := by
  cases e <;> (try rfl)
  rename_i f args; cases f <;> rfl
theorem isE_set (e : ME) (l : List PySem.Expr) (k : Nat) (p : Pos) : isE S e (.Set l k p) = false := by
  cases e <;> (try rfl)
  rename_i f args; cases f <;> rfl
theorem sub_plain {e : ME} {x : PySem.Expr} (h : isE S e x = true) (o i : Value) : subscripted x false o i = operate [o, i] (getItem o i) := by
  cases x <;> first
    | rfl
    | (rw [isE_slice] at h; cases h)
theorem Zv {e : ME} {x : PySem.Expr} (h : isE S e x = true) (rest : List PySem.Expr) (env : Env) : starEach (x :: rest) env = (false, eval x env) :: starEach rest env := by
  cases x <;> first
    | rfl
    | (rw [isE_starred] at h; cases h)
theorem marks_none {e : ME} {x : PySem.Expr} (h : isE S e x = true) (op : CmpOp) : behindInMarks op x = false := by
  cases x <;> first
    | rfl
    | (rw [isE_set] at h; cases h)
theorem folded_none {e : ME} {x : PySem.Expr} (h : isE S e x = true) (env : Env) (v : Value) : foldedSetIterable x env v = pure v := by
  cases x <;> first
    | rfl
    | (rw [isE_set] at h; cases h)
theorem Y4 : ∀ {l : List ME} {xs : List PySem.Expr} (pos : Pos), isEs S l xs = true → backTo pos (starEach xs env) = xs.map fun x => (false, eval x env)
  | [], [] => fun _ _ => rfl
  | e :: l, x :: xs => fun pos h => by
    replace h := Xw h
    rw [Zv h.1]
    show (false, _) :: backTo pos (starEach xs env) = _
    rw [Y4 pos h.2]; rfl
  | [], _ :: _ => fun _ h => (Bool.false_ne_true h).elim
  | _ :: _, [] => fun _ h => (Bool.false_ne_true h).elim
theorem Nh : ∀ {l : List ME} {xs : List PySem.Expr}, isEs S l xs = true → xs.length = l.length
  | [], [] => fun _ => rfl
  | e :: l, x :: xs => fun h => by replace h := Xw h; simp [Nh h.2]
  | [], _ :: _ => fun h => (Bool.false_ne_true h).elim
  | _ :: _, [] => fun h => (Bool.false_ne_true h).elim
theorem Yc : ∀ {l : List ME} (hl : ∀ e ∈ l, SS prog w G h₀ Φ d e) {xs : List PySem.Expr} {μ : MH} {s : Shared} {Q : List MV → MH → Prop}, isEs S l xs = true → OkA d A → Cur prog w h₀ S env vars fz μ s → evs G Φ X0 l fz vars Q μ →
    wpAny (model prog w) A (spliced (xs.map fun x => (false, eval x env))) (PostL prog w fz μ s Q) E s
  | [], _, [], μ, s, Q => fun h hA C hq => by
    have hq := hq
    exact Calls.spliced_nil ⟨[], μ, hq, trivial, C.heap, .refl⟩
  | e :: l, hl, x :: xs, μ, s, Q => fun h hA C hq => by
    replace h := Xw h
    have hq := hq
    refine Calls.spliced_cons (wpAny_mono ((hl e (.head _)).1 S x env vars fz μ s _ A E h.1 hA C hq) (fun v s₁ h₁ => ?_) fun _ _ e => e)
    obtain ⟨mv, μ₁, hq₁, rv, r₁, g₁⟩ := h₁
    refine wpAny_mono (Yc (fun e' he' => hl e' (.tail _ he')) h.2 hA (C.grow g₁ r₁) hq₁) (fun vs s₂ h₂ => ?_) fun _ _ e => e
    obtain ⟨ms, μ₂, hq₂, rs, r₂, g₂⟩ := h₂
    exact ⟨mv :: ms, μ₂, hq₂, by simp only [RepVs]; exact ⟨rv.keepT (g₂.keepT r₁), rs⟩, r₂, g₁.trans g₂⟩
  | [], _, _ :: _, _, _, _ => fun h _ _ _ => (Bool.false_ne_true h).elim
  | _ :: _, _, [], _, _, _ => fun h _ _ _ => (Bool.false_ne_true h).elim
theorem Xz {M : Model} {f : Value} {trees : List (Bool × Sem Value)} {Q : Args → Shared → Prop} (hp : trees.any (·.1) = false) (h : wpAny M A (spliced trees) (fun vs s' => Q ⟨vs, []⟩ s') E s) : wpAny M A (evalArgs f true trees []) Q E s := by
  cases trees with
  | nil =>
    unfold evalArgs
    show wpAny M A (spliced [] >>= _) Q E s
    refine wpAny_bind (wpAny_mono h (fun vs s' h' => ?_) fun _ _ e => e)
    refine wpAny_bind (wpAny_pure (wpAny_holding ?_))
    exact wpAny_bind (wpAny_pure (wpAny_bind (wpAny_pure (wpAny_pure h'))))
  | cons t rest =>
    obtain ⟨b, x⟩ := t
    simp only [List.any_cons, Bool.or_eq_false_iff] at hp
    obtain rfl : b = false := hp.1
    exact evalArgs_plain h
theorem Xv (xs : List PySem.Expr) : (xs.map fun x => (false, eval x env)).any (·.1) = false := by induction xs with | nil => rfl | cons x xs ih => simpa using ih
theorem truthyT {x : PySem.Expr} {e : ME} (hE : SE prog w G h₀ Φ d e) (hT : ∀ whole, isTrue x env whole = (do let v ← whole; standAt x.pos; holding [v] (PySem.truthy v))) {F : Bool → MH → Prop} (h : isE S e x = true) (hA : OkA d A) (C : Cur prog w h₀ S env vars fz μ s)
    (hq : ev G Φ X0 e fz vars (fun v μ' => ∃ b, truthy μ' v = some b ∧ F b μ') μ) : wpAny (model prog w) A (isTrue x env (eval x env)) (PostB prog w fz μ s F) E s := by
  rw [hT]
  refine wpAny_bind (wpAny_mono (hE S x env vars fz μ s _ A E h hA C hq) (fun v s₁ h₁ => ?_) fun _ _ e => e)
  obtain ⟨mv, μ₁, ⟨b, hb, hF⟩, rv, r₁, g₁⟩ := h₁
  refine wpAny_bind (wpAny_standAt (wpAny_holding (wpAny_mono (Jk rv r₁ hb) (fun b' s₂ h₂ => ?_) fun _ _ e => e)))
  obtain ⟨rfl, st⟩ := h₂
  exact ⟨μ₁, hF, by rw [st.1]; exact r₁, g₁.trans st.grow⟩
end
end Mine
end
section
namespace Mine
open PySem PySem.Calls PyProof.Rows PySem.W
section
variable {prog : Program} {w : World} {G : String → Option MV} {Γ : String → Option MFun} {h₀ : Heap} {mg mb : Str → Option Value} {Φ : CallSpec} {d : Nat}
theorem Yj {S : Sc} {i : Nat} {x : Str} (h : S.isVar i x = true) : (x == ("__debug__" : Str)) = false := by
  unfold Sc.isVar notDebug at h
  simp only [Bool.and_eq_true, beq_iff_eq, Bool.not_eq_true'] at h
  exact h.2.1
theorem Z8 {S : Sc} {g : String} {x : Str} (h : S.isGlob g x = true) : x = Str.ofString g ∧ S.names.lookup x = some .globalImplicit ∧ (x == ("__debug__" : Str)) = false := by
  unfold Sc.isGlob notDebug isGlobK at h
  simp only [Bool.and_eq_true, beq_iff_eq, Bool.not_eq_true'] at h
  refine ⟨h.1.1, ?_, h.2.1⟩
  exact of_decide_eq_true h.1.2
theorem Kw {M : Model} {S : Sc} {env : Env} {vars : MVars} {fz : List Addr} {μ : MH} {s : Shared} {A : Around} {E : Value → Shared → Prop} {g : String} {x : Str} {p : Pos} {v : Value} {Q : Value → Shared → Prop} (pg : PG prog w G Γ h₀ mg mb) (C : Cur prog w h₀ S env vars fz μ s) (h : S.isGlob g x = true)
    (hv : mg (Str.ofString g) = some v) (hq : Q v s) : wpAny M A (eval (.Name x p) env) Q E s := by
  obtain ⟨rfl, hk, hd⟩ := Z8 h
  refine Name_function_global C.fr.kind (by unfold Env.kindOf; rw [C.fr.names]; exact hk) (loadGlobal_global (mg := mg) ?_ hv hq) hd
  rw [C.fr.glob]
  exact pg.g.keeps fun b o e => (C.base b o e).1
theorem Zq {M : Model} {S : Sc} {env : Env} {vars : MVars} {fz : List Addr} {μ : MH} {s : Shared} {A : Around} {E : Value → Shared → Prop} {g : String} {x : Str} {p : Pos} {v : Value} {Q : Value → Shared → Prop} (pg : PG prog w G Γ h₀ mg mb) (C : Cur prog w h₀ S env vars fz μ s) (h : S.isGlob g x = true)
    (hv : (g, v) ∈ biTab) (hq : Q v s) : wpAny M A (eval (.Name x p) env) Q E s := by
  obtain ⟨rfl, hk, hd⟩ := Z8 h
  refine Name_function_global C.fr.kind (by unfold Env.kindOf; rw [C.fr.names]; exact hk) (loadGlobal_builtin (mg := mg) (mb := mb) ?_ (pg.bi _ hv).1 ?_ (pg.bi _ hv).2 hq) hd
  · rw [C.fr.glob]; exact pg.g.keeps fun b o e => (C.base b o e).1
  · rw [C.fr.bui]; exact pg.b.keeps fun b o e => (C.base b o e).1
theorem se_var (i : Nat) : SE prog w G h₀ Φ d (.var i) := fun S x env vars fz μ s Q A E h hA C hq => by
  replace h := Jx h
  obtain ⟨y, p, rfl, h⟩ := h
  obtain ⟨v, hv, hq⟩ := hq
  exact wpAny_Name (Zx C h hv fun u r => Xp hq C.heap r rfl rfl rfl) (Yj h)
theorem se_glob (pg : PG prog w G Γ h₀ mg mb) (g : String) : SE prog w G h₀ Φ d (.glob g) := fun S x env vars fz μ s Q A E h hA C hq => by
  replace h := inv_glob h
  obtain ⟨y, p, rfl, h⟩ := h
  obtain ⟨v, hv, hq⟩ := hq
  obtain ⟨val, hval, hr⟩ := pg.const g v hv
  refine Kw pg C h hval (Xp hq C.heap ?_ rfl rfl rfl)
  rcases hr with ⟨i, t, rfl, rfl⟩ | ⟨y, t, rfl, rfl⟩ <;> simp [RepV]
theorem se_cint (i : Int) : SE prog w G h₀ Φ d (.cint i) := fun S x env vars fz μ s Q A E h hA C hq => by
  replace h := inv_cint h
  obtain ⟨k, p, rfl⟩ := h
  exact wpAny_Constant_int (Xp hq C.heap (by simp [RepV]) rfl rfl rfl)
theorem se_cstr (t : String) : SE prog w G h₀ Φ d (.cstr t) := fun S x env vars fz μ s Q A E h hA C hq => by
  replace h := inv_cstr h
  obtain ⟨k, p, rfl⟩ := h
  exact Calls.Constant_str (Xp hq C.heap (by simp [RepV]) rfl rfl rfl)
theorem se_cbool (b : Bool) : SE prog w G h₀ Φ d (.cbool b) := fun S x env vars fz μ s Q A E h hA C hq => by
  replace h := Ac h
  obtain ⟨k, p, rfl⟩ := h
  exact wpAny_pure (Xp hq C.heap (by simp [RepV]) rfl rfl rfl)
theorem se_cnone : SE prog w G h₀ Φ d .cnone := fun S x env vars fz μ s Q A E h hA C hq => by
  replace h := inv_cnone h
  obtain ⟨k, p, rfl⟩ := h
  exact wpAny_pure (Xp hq C.heap (by simp [RepV]) rfl rfl rfl)
theorem se_bin {op : BOp} {a b : ME} (ha : SE prog w G h₀ Φ d a) (hb : SE prog w G h₀ Φ d b) : SE prog w G h₀ Φ d (.bin op a b) := fun S x env vars fz μ s Q A E h hA C hq => by
  replace h := inv_bin h
  obtain ⟨l, o, r, p, rfl, h⟩ := h
  simp only [Bool.and_eq_true] at h
  refine wpAny_BinOp (wpAny_mono (ha S _ env vars fz μ s _ A E h.1.2 hA C hq) (fun v s₁ h₁ => ?_) fun _ _ e => e)
  obtain ⟨mv, μ₁, hq₁, rv, r₁, g₁⟩ := h₁
  have C₁ := C.grow g₁ r₁
  refine wpAny_mono (hb S _ env vars fz μ₁ s₁ _ A E h.2 hA C₁ hq₁) (fun u s₂ h₂ => ?_) fun _ _ e => e
  obtain ⟨mu, μ₂, hq₂, ru, r₂, g₂⟩ := h₂
  refine wpAny_mono (op_bin h.1.1 (rv.keepT (g₂.keepT r₁)) ru r₂ (C₁.grow g₂ r₂).fzin hA hq₂) (fun v' s₃ h₃ => (h₃.trans g₂).trans g₁) fun _ _ e => e
theorem se_neg {a : ME} (ha : SE prog w G h₀ Φ d a) : SE prog w G h₀ Φ d (.neg a) := fun S x env vars fz μ s Q A E h hA C hq => by
  replace h := inv_neg h
  obtain ⟨y, p, rfl, h⟩ := h
  refine wpAny_UnaryOp (wpAny_mono (ha S _ env vars fz μ s _ A E h hA C hq) (fun v s₁ h₁ => ?_) fun _ _ e => e)
  obtain ⟨mv, μ₁, ⟨i, rfl, hq₁⟩, rv, r₁, g₁⟩ := h₁
  simp only [RepV] at rv; obtain ⟨t, rfl⟩ := rv
  exact PyProof.Rows.neg_int (PostV.trans g₁ (Xp (mv := .int (-i)) hq₁ r₁ (by simp only [RepV]; exact ⟨_, rfl⟩) rfl rfl rfl))
theorem se_not {a : ME} (ha : SE prog w G h₀ Φ d a) : SE prog w G h₀ Φ d (.not a) := fun S x env vars fz μ s Q A E h hA C hq => by
  replace h := inv_not h
  obtain ⟨y, p, rfl, h⟩ := h
  refine wpAny_UnaryOp (wpAny_mono (ha S _ env vars fz μ s _ A E h hA C hq) (fun v s₁ h₁ => ?_) fun _ _ e => e)
  obtain ⟨mv, μ₁, ⟨b, hb, hq₁⟩, rv, r₁, g₁⟩ := h₁
  refine not_of (wpAny_mono (Jk rv r₁ hb) (fun b' s₂ h₂ => ?_) fun _ _ e => e)
  obtain ⟨rfl, st⟩ := h₂
  exact (Z6 hq₁ r₁ (by simp [RepV]) st : PostV prog w fz μ₁ s₁ Q _ _).trans g₁
theorem bool_list {op : BoolOp} (isOr : Bool) (ho : op = if isOr then .Or else .And) : ∀ {l : List ME} (hl : ∀ e ∈ l, SE prog w G h₀ Φ d e) {S : Sc} {env : Env} {vars : MVars} {fz : List Addr} {xs : List PySem.Expr} {μ : MH} {s : Shared} {Q : MQ} {A : Around} {E : Value → Shared → Prop} {pos : Pos}, isEs S l xs = true → OkA d A → Cur prog w h₀ S env vars fz μ s →
    (if isOr then evOr G Φ X0 l fz vars Q μ else evAnd G Φ X0 l fz vars Q μ) → wpAny (model prog w) A (boolOp pos op (evalEach xs env)) (PostV prog w fz μ s Q) E s
  | [], _, S, env, vars, fz, [], μ, s, Q, A, E, pos => fun h hA C hq => by cases isOr <;> exact False.elim hq
  | [e], hl, S, env, vars, fz, [x], μ, s, Q, A, E, pos => fun h hA C hq => by
    replace h := (Xw h).1
    have hq' : ev G Φ X0 e fz vars Q μ := by cases isOr <;> exact hq
    exact hl e (.head _) S x env vars fz μ s Q A E h hA C hq'
  | e :: e' :: l, hl, S, env, vars, fz, x :: x' :: xs, μ, s, Q, A, E, pos => fun h hA C hq => by
    have h' : isE S e x = true ∧ isEs S (e' :: l) (x' :: xs) = true := Xw h
    show wpAny _ A (eval x env >>= _) _ _ s
    have key : ev G Φ X0 e fz vars (fun v μ' => ∃ b, truthy μ' v = some b ∧ if b = isOr then Q v μ' else (if isOr then evOr G Φ X0 (e' :: l) fz vars Q μ' else evAnd G Φ X0 (e' :: l) fz vars Q μ')) μ := by
      cases isOr
      · simp only [Bool.false_eq_true, if_false] at hq ⊢
        have q : (fun (v : MV) (μ' : MH) => ∃ b, truthy μ' v = some b ∧ if b = false then Q v μ' else evAnd G Φ X0 (e' :: l) fz vars Q μ') = (fun v μ' => ∃ b, truthy μ' v = some b ∧ if b = true then evAnd G Φ X0 (e' :: l) fz vars Q μ' else Q v μ') := by
          funext v μ'
          apply propext
          constructor <;> rintro ⟨b, hb, hh⟩ <;> refine ⟨b, hb, ?_⟩ <;> cases b <;> simpa using hh
        rw [q]; exact hq
      · simp only [if_true] at hq ⊢
        exact hq
    refine wpAny_bind (wpAny_mono (hl e (.head _) S x env vars fz μ s _ A E h'.1 hA C key) (fun v s₁ h₁ => ?_) fun _ _ e => e)
    obtain ⟨mv, μ₁, ⟨b, hb, hq₁⟩, rv, r₁, g₁⟩ := h₁
    refine wpAny_bind (wpAny_standAt (wpAny_bind (wpAny_holding (wpAny_mono (Jk rv r₁ hb) (fun b' s₂ h₂ => ?_) fun _ _ e => e))))
    obtain ⟨rfl, st⟩ := h₂
    have r₂ : RepH prog w μ₁ s₂.heap := by rw [st.1]; exact r₁
    have C₂ := C.grow (g₁.trans st.grow) r₂
    subst ho
    by_cases hbo : b' = isOr
    · subst hbo
      simp only [if_true] at hq₁
      cases b' <;> exact wpAny_pure ((Z6 hq₁ r₁ rv st : PostV prog w fz μ₁ s₁ Q _ _).trans g₁)
    · rw [if_neg hbo] at hq₁
      have rest := bool_list (op := if isOr then .Or else .And) isOr rfl (fun e'' he => hl e'' (.tail _ he)) (pos := pos) (E := E) h'.2 hA C₂ hq₁
      cases b' <;> cases isOr <;> first
        | exact absurd rfl hbo
        | exact wpAny_mono rest (fun v' s₃ h₃ => h₃.trans (g₁.trans st.grow)) fun _ _ e => e
  | [], _, S, env, vars, fz, _ :: _, μ, s, Q, A, E, pos => fun h hA C hq => (Bool.false_ne_true h).elim
  | _ :: _, _, S, env, vars, fz, [], μ, s, Q, A, E, pos => fun h hA C hq => (Bool.false_ne_true h).elim
  | [_], _, S, env, vars, fz, _ :: _ :: _, μ, s, Q, A, E, pos => fun h hA C hq => (Bool.false_ne_true (Xw h).2).elim
  | _ :: _ :: _, _, S, env, vars, fz, [_], μ, s, Q, A, E, pos => fun h hA C hq => (Bool.false_ne_true (Xw h).2).elim
end
end Mine
end
section
namespace Mine
open PySem PySem.Calls PyProof.Rows PySem.W
section
variable {prog : Program} {w : World} {G : String → Option MV} {Γ : String → Option MFun} {h₀ : Heap} {mg mb : Str → Option Value} {Φ : CallSpec} {d : Nat}
theorem se_and {l : List ME} (hl : ∀ e ∈ l, SE prog w G h₀ Φ d e) : SE prog w G h₀ Φ d (.and l) := fun S x env vars fz μ s Q A E h hA C hq => by
  replace h := inv_and h
  obtain ⟨xs, p, rfl, h⟩ := h
  exact bool_list false rfl hl h hA C hq
theorem se_or {l : List ME} (hl : ∀ e ∈ l, SE prog w G h₀ Φ d e) : SE prog w G h₀ Φ d (.or l) := fun S x env vars fz μ s Q A E h hA C hq => by
  replace h := inv_or h
  obtain ⟨xs, p, rfl, h⟩ := h
  exact bool_list true rfl hl h hA C hq
theorem Yz {S : Sc} : ∀ {es : List ME} {xs : List PySem.Expr} (os : List CmpOp), isEs S es xs = true → lastMarks os xs = false
  | [], [], os => fun _ => by cases os <;> simp [lastMarks]
  | e :: es, x :: xs, [] => fun _ => by simp [lastMarks]
  | e :: es, x :: xs, o :: os => fun h => by
    replace h := Xw h
    have ih := Yz os h.2
    have hm := marks_none h.1 o
    cases os <;> cases xs <;> simp_all [lastMarks]
  | [], _ :: _, _ => fun h => (Bool.false_ne_true h).elim
  | _ :: _, [], _ => fun h => (Bool.false_ne_true h).elim
theorem cmp_list : ∀ {es : List ME} (hl : ∀ e ∈ es, SE prog w G h₀ Φ d e) {S : Sc} {env : Env} {vars : MVars} {fz : List Addr} {ops : List COp} {os : List CmpOp} {xs : List PySem.Expr} {a : MV} {va : Value} {μ : MH} {s : Shared} {Q : MQ} {A : Around} {E : Value → Shared → Prop} {pos : Pos}, copsIs ops os = true → isEs S es xs = true → OkA d A → Cur prog w h₀ S env vars fz μ s →
    RepV s.heap a va → evCmp G Φ X0 es ops a fz vars Q μ → wpAny (model prog w) A (compareChain pos va os (evalEach xs env)) (PostV prog w fz μ s Q) E s
  | e :: es, hl, S, env, vars, fz, op :: ops, o :: os, x :: xs, a, va, μ, s, Q, A, E, pos => fun ho h hA C ra hq => by
    simp only [copsIs, Bool.and_eq_true] at ho
    replace h := Xw h
    have step := hl e (.head _) S x env vars fz μ s _ A E h.1 hA C hq
    cases es with
    | nil =>
      cases xs with
      | cons _ _ => simp [isEs] at h
      | nil =>
      cases ops with
      | cons _ _ =>
        cases os with
        | nil => simp [copsIs] at ho
        | cons o' os =>
          show wpAny _ A (holding [va] (eval x env) >>= _) _ _ s
          refine wpAny_bind (wpAny_holding (wpAny_mono step (fun v s₁ h₁ => ?_) fun _ _ e => e))
          obtain ⟨_, _, ⟨b, _, f⟩, _⟩ := h₁
          exact f.elim
      | nil =>
        cases os with
        | cons _ _ => simp [copsIs] at ho
        | nil =>
          refine chain_last (wpAny_mono step (fun v s₁ h₁ => ?_) fun _ _ e => e)
          obtain ⟨mv, μ₁, ⟨b, hb, hq₁⟩, rv, r₁, g₁⟩ := h₁
          exact Az ho.1 (ra.keepT (g₁.keepT C.heap)) rv r₁ hA hb fun s' st => PostV.trans g₁ (Z6 hq₁ r₁ (by simp [RepV]) st)
    | cons e' es =>
      cases xs with
      | nil => simp [isEs] at h
      | cons x' xs =>
      cases ops with
      | nil =>
        cases os with
        | cons _ _ => simp [copsIs] at ho
        | nil =>
          show wpAny _ A (holding [va] (eval x env) >>= _) _ _ s
          refine wpAny_bind (wpAny_holding (wpAny_mono step (fun v s₁ h₁ => ?_) fun _ _ e => e))
          obtain ⟨_, _, ⟨b, _, f⟩, _⟩ := h₁
          exact f.elim
      | cons op' ops =>
        cases os with
        | nil => simp [copsIs] at ho
        | cons o' os =>
          refine chain_link (wpAny_mono step (fun v s₁ h₁ => ?_) fun _ _ e => e)
          obtain ⟨mv, μ₁, ⟨b, hb, hq₁⟩, rv, r₁, g₁⟩ := h₁
          refine Az ho.1 (ra.keepT (g₁.keepT C.heap)) rv r₁ hA hb fun s' st => wpAny_truthy_bool ?_
          have r₂ : RepH prog w μ₁ s'.heap := by rw [st.1]; exact r₁
          cases b with
          | false => exact PostV.trans g₁ (Z6 hq₁ r₁ (by simp [RepV]) st)
          | true =>
            refine wpAny_mono (cmp_list (fun e'' he => hl e'' (.tail _ he)) ho.2 h.2 hA (C.grow (g₁.trans st.grow) r₂) (by rw [st.1]; exact rv) hq₁) (fun v' s₃ h₃ => h₃.trans (g₁.trans st.grow)) fun _ _ e => e
  | [], _, _, _, _, _, _, _, _, _, _, _, _, _, _, _, _ => fun _ _ _ _ _ hq => False.elim hq
  | _ :: _, _, _, _, _, _, [], _, _, _, _, _, _, _, _, _, _ => fun _ _ _ _ _ hq => False.elim hq
  | _ :: _, _, _, _, _, _, _ :: _, [], _, _, _, _, _, _, _, _, _ => fun ho _ _ _ _ hq => by simp [copsIs] at ho
  | _ :: _, _, _, _, _, _, _ :: _, _ :: _, [], _, _, _, _, _, _, _, _ => fun _ h _ _ _ hq => (Bool.false_ne_true h).elim
theorem se_cmp {a : ME} {ops : List COp} {es : List ME} (ha : SE prog w G h₀ Φ d a) (hl : ∀ e ∈ es, SE prog w G h₀ Φ d e) : SE prog w G h₀ Φ d (.cmp a ops es) := fun S x env vars fz μ s Q A E h hA C hq => by
  replace h := Bc h
  obtain ⟨l, os, cs, p, rfl, h⟩ := h
  simp only [Bool.and_eq_true] at h
  show wpAny _ A (eval l env >>= fun v => compareChain p v os (markedEach os cs (evalEach cs env))) _ _ s
  rw [markedEach_of_false _ _ _ (Yz os h.2)]
  refine wpAny_bind (wpAny_mono (ha S _ env vars fz μ s _ A E h.1.1 hA C hq) (fun v s₁ h₁ => ?_) fun _ _ e => e)
  obtain ⟨mv, μ₁, hq₁, rv, r₁, g₁⟩ := h₁
  exact wpAny_mono (cmp_list hl h.1.2 h.2 hA (C.grow g₁ r₁) rv hq₁) (fun v' s₃ h₃ => h₃.trans g₁) fun _ _ e => e
theorem se_idx {a i : ME} (ha : SE prog w G h₀ Φ d a) (hi : SE prog w G h₀ Φ d i) : SE prog w G h₀ Φ d (.idx a i) := fun S x env vars fz μ s Q A E h hA C hq => by
  replace h := inv_idx h
  obtain ⟨v, y, p, rfl, h⟩ := h
  simp only [Bool.and_eq_true] at h
  refine Subscript_ (wpAny_mono (ha S _ env vars fz μ s _ A E h.1 hA C hq) (fun v s₁ h₁ => ?_) fun _ _ e => e)
  obtain ⟨mv, μ₁, hq₁, rv, r₁, g₁⟩ := h₁
  have C₁ := C.grow g₁ r₁
  refine wpAny_mono (hi S _ env vars fz μ₁ s₁ _ A E h.2 hA C₁ hq₁) (fun u s₂ h₂ => ?_) fun _ _ e => e
  obtain ⟨mu, μ₂, ⟨z, hz, hq₂⟩, ru, r₂, g₂⟩ := h₂
  exact op_item (rv.keepT (g₂.keepT r₁)) ru r₂ hz (sub_plain h.2) fun zv s' rz st => PostV.trans (g₁.trans g₂) (Z6 hq₂ r₂ rz st)
theorem isNone_eq {e : ME} (h : e.isNone = true) : e = .cnone := by
  cases e <;> first | rfl | exact (Bool.false_ne_true h).elim
theorem Aw {e : ME} (he : SE prog w G h₀ Φ d e) {S : Sc} {o : Option PySem.Expr} {env : Env} {vars : MVars} {fz : List Addr} {μ : MH} {s : Shared} {Q : MQ} {A : Around} {E : Value → Shared → Prop}
    (h : optOk o e.isNone (isE S e) = true) (hA : OkA d A) (C : Cur prog w h₀ S env vars fz μ s) (hq : ev G Φ X0 e fz vars Q μ) : wpAny (model prog w) A (evalPart o env) (PostV prog w fz μ s Q) E s := by
  cases o with
  | none =>
    obtain rfl := isNone_eq h
    exact wpAny_evalPart_none (Xp hq C.heap (by simp [RepV]) rfl rfl rfl)
  | some x => exact wpAny_evalPart_some (he S x env vars fz μ s Q A E h hA C hq)
theorem se_slice {a lo hi st : ME} (ha : SE prog w G h₀ Φ d a) (hlo : SE prog w G h₀ Φ d lo) (hhi : SE prog w G h₀ Φ d hi) (hst : SE prog w G h₀ Φ d st) : SE prog w G h₀ Φ d (.slice a lo hi st) := fun S x env vars fz μ s Q A E h hA C hq => by
  replace h := inv_slice h
  obtain ⟨v, l, u, tt, sp, p, rfl, h⟩ := h
  simp only [Bool.and_eq_true] at h
  refine Subscript_ (wpAny_mono (ha S _ env vars fz μ s _ A E h.1.1.1 hA C hq) (fun v s₁ h₁ => ?_) fun _ _ e => e)
  obtain ⟨mv, μ₁, hq₁, rv, r₁, g₁⟩ := h₁
  have C₁ := C.grow g₁ r₁
  refine wpAny_Slice (wpAny_mono (Aw hlo h.1.1.2 hA C₁ hq₁) (fun vl s₂ h₂ => ?_) fun _ _ e => e)
  obtain ⟨ml, μ₂, hq₂, rl, r₂, g₂⟩ := h₂
  have C₂ := C₁.grow g₂ r₂
  refine wpAny_mono (Aw hhi h.1.2 hA C₂ hq₂) (fun vh s₃ h₃ => ?_) fun _ _ e => e
  obtain ⟨mh, μ₃, hq₃, rh, r₃, g₃⟩ := h₃
  have C₃ := C₂.grow g₃ r₃
  refine wpAny_mono (Aw hst h.2 hA C₃ hq₃) (fun vs s₄ h₄ => ?_) fun _ _ e => e
  obtain ⟨ms, μ₄, hq₄, rs, r₄, g₄⟩ := h₄
  have C₄ := C₃.grow g₄ r₄
  have kp : ∀ b o, s₄.heap.get? b = some o → (s₄.heap.push { cls := .type "slice", data := .fields #[vl, vh, vs] }).get? b = some o := fun b o e => Heap.get?_push_of_some _ e
  have kt := KeepsT.of_all kp
  refine wpAny_mono (op_slice (sl := s₄.heap.objs.size) (μ₀ := μ) (s₀ := s) (s := { s₄ with heap := s₄.heap.push { cls := .type "slice", data := .fields #[vl, vh, vs] } }) (((rv.keepT (g₂.keepT r₁)).keepT (g₃.keepT r₂)).keepT (g₄.keepT r₃) |>.keepT kt) (((rl.keepT (g₃.keepT r₂)).keepT (g₄.keepT r₃)).keepT kt) ((rh.keepT (g₄.keepT r₃)).keepT kt) (rs.keepT kt) (r₄.ext kp) C₄.fzin hq₄ (Heap.get?_push_size _ rfl)) (fun v' s₅ h₅ => PostV.trans (((g₁.trans g₂).trans g₃).trans g₄) (PostV.trans (.ext (tk := s₄.toks) kp) h₅)) fun _ _ e => e
theorem se_list {l : List ME} (hl : ∀ e ∈ l, SS prog w G h₀ Φ d e) : SE prog w G h₀ Φ d (.list l) := fun S x env vars fz μ s Q A E h hA C hq => by
  replace h := inv_list h
  obtain ⟨es, p, rfl, h⟩ := h
  refine wpAny_List_spliced ?_
  rw [Y4 p h]
  refine wpAny_mono (Yc hl h hA C hq) (fun vs s₁ h₁ => ?_) fun _ _ e => e
  obtain ⟨ms, μ₁, ⟨hf, hq₁⟩, rv, r₁, g₁⟩ := h₁
  refine ⟨by rw [rv.length]; exact Xq hf, PostV.trans g₁ ?_⟩
  exact Zs (tk := s₁.toks) hq₁ r₁ (C.grow g₁ r₁).fzin (Yx rv)
theorem se_tuple {l : List ME} (hl : ∀ e ∈ l, SS prog w G h₀ Φ d e) : SE prog w G h₀ Φ d (.tuple l) := fun S x env vars fz μ s Q A E h hA C hq => by
  replace h := inv_tuple h
  obtain ⟨es, kk, p, rfl, h⟩ := h
  refine wpAny_Tuple_spliced ?_
  rw [Y4 p h]
  refine wpAny_mono (Yc hl h hA C hq) (fun vs s₁ h₁ => ?_) fun _ _ e => e
  obtain ⟨ms, μ₁, ⟨hf, hq₁⟩, rv, r₁, g₁⟩ := h₁
  refine ⟨by rw [rv.length]; exact Xq hf, PostV.trans g₁ ?_⟩
  exact Yo (tk := s₁.toks) hq₁ r₁ (fun b o e => Heap.get?_push_of_some _ e) (Kf rv)
theorem mods_lt (pg : PG prog w G Γ h₀ mg mb) {S : Sc} {env : Env} {vars : MVars} {fz : List Addr} {μ : MH} {s : Shared} (C : Cur prog w h₀ S env vars fz μ s) : sysModules < s.heap.objs.size := by
  obtain ⟨o, es, ep, ho, _⟩ := pg.g
  have := Heap.lt_size (C.base _ _ ho).1
  exact Nat.lt_trans (by decide) this
theorem se_dict0 (pg : PG prog w G Γ h₀ mg mb) (b : Bool) : SE prog w G h₀ Φ d (.dict0 b) := fun S x env vars fz μ s Q A E h hA C hq => by
  replace h := inv_dict0 h
  obtain ⟨p, rfl⟩ := h
  have hm := mods_lt pg C
  refine wpAny_Dict_empty (Zs (tk := s.toks) hq C.heap C.fzin ?_)
  have ne : (s.heap.objs.size == sysModules) = false := by
    rw [beq_eq_false_iff_ne]; exact Nat.ne_of_gt hm
  cases b
  · exact ⟨[], Heap.DictOf.new _, trivial, ne⟩
  · exact ⟨[], Heap.DictOf.new _, trivial, ne⟩
theorem st_not {a : ME} (ha : ST prog w G h₀ Φ d a) : ST prog w G h₀ Φ d (.not a) := fun S x env vars fz μ s F A E h hA C hq => by
  replace h := inv_not h
  obtain ⟨y, p, rfl, h⟩ := h
  show wpAny _ A (isTrue y env (eval y env) >>= fun b => pure (!b)) _ _ s
  have q : (fun (x : MV) (μ' : MH) => ∃ b, truthy μ' x = some b ∧ ∃ b_1, truthy μ' (MV.bool !b) = some b_1 ∧ F b_1 μ') = (fun x μ' => ∃ b, truthy μ' x = some b ∧ F (!b) μ') := by
    funext v μ'
    simp [truthy]
  replace hq : ev G Φ X0 a fz vars (fun x μ' => ∃ b, truthy μ' x = some b ∧ ∃ b_1, truthy μ' (MV.bool !b) = some b_1 ∧ F b_1 μ') μ := hq
  rw [q] at hq
  refine wpAny_bind (wpAny_mono (ha S y env vars fz μ s (fun b μ' => F (!b) μ') A E h hA C hq) (fun v s₁ h₁ => ?_) fun _ _ e => e)
  obtain ⟨μ₁, q₁, r₁, g₁⟩ := h₁
  exact wpAny_pure ⟨μ₁, q₁, r₁, g₁⟩
theorem Pb (isOr : Bool) : ∀ {l : List ME} (hl : ∀ e ∈ l, ST prog w G h₀ Φ d e) {S : Sc} {env : Env} {vars : MVars} {fz : List Addr} {xs : List PySem.Expr} {μ : MH} {s : Shared} {F : Bool → MH → Prop} {A : Around} {E : Value → Shared → Prop}, isEs S l xs = true → OkA d A → Cur prog w h₀ S env vars fz μ s →
    (if isOr then evOr G Φ X0 l fz vars (fun v μ' => ∃ b, truthy μ' v = some b ∧ F b μ') μ else evAnd G Φ X0 l fz vars (fun v μ' => ∃ b, truthy μ' v = some b ∧ F b μ') μ) → wpAny (model prog w) A (allTrue (if isOr then .Or else .And) xs env) (PostB prog w fz μ s F) E s
  | [], _, S, env, vars, fz, [], μ, s, F, A, E => fun h hA C hq => by cases isOr <;> exact False.elim hq
  | e :: l, hl, S, env, vars, fz, x :: xs, μ, s, F, A, E => fun h hA C hq => by
    have h' : isE S e x = true ∧ isEs S l xs = true := Xw h
    have key : ev G Φ X0 e fz vars (fun v μ' => ∃ b, truthy μ' v = some b ∧ if l = [] ∨ b = isOr then F b μ' else (if isOr then evOr G Φ X0 l fz vars (fun v μ' => ∃ b, truthy μ' v = some b ∧ F b μ') μ' else evAnd G Φ X0 l fz vars (fun v μ' => ∃ b, truthy μ' v = some b ∧ F b μ') μ')) μ := by
      cases l with
      | nil =>
        have hq' : ev G Φ X0 e fz vars (fun v μ' => ∃ b, truthy μ' v = some b ∧ F b μ') μ := by cases isOr <;> exact hq
        simpa using hq'
      | cons e' l =>
        cases isOr
        · simp only [Bool.false_eq_true, if_false] at hq ⊢
          have q : (fun (v : MV) (μ' : MH) => ∃ b, truthy μ' v = some b ∧ if e' :: l = [] ∨ b = false then F b μ' else evAnd G Φ X0 (e' :: l) fz vars (fun v μ' => ∃ b, truthy μ' v = some b ∧ F b μ') μ') =
              (fun v μ' => ∃ b, truthy μ' v = some b ∧ if b = true then evAnd G Φ X0 (e' :: l) fz vars (fun v μ' => ∃ b, truthy μ' v = some b ∧ F b μ') μ' else ∃ b, truthy μ' v = some b ∧ F b μ') := by
            funext v μ'
            apply propext
            constructor
            · rintro ⟨b, hb, hh⟩
              refine ⟨b, hb, ?_⟩
              cases b
              · rw [if_pos (.inr rfl)] at hh; rw [if_neg (by simp)]; exact ⟨_, hb, hh⟩
              · simpa using hh
            · rintro ⟨b, hb, hh⟩
              refine ⟨b, hb, ?_⟩
              cases b
              · rw [if_neg (by simp)] at hh; rw [if_pos (.inr rfl)]; obtain ⟨b', hb', hh⟩ := hh; rw [hb] at hb'; cases hb'; exact hh
              · simpa using hh
          rw [q]; exact hq
        · simp only [if_true] at hq ⊢
          have q : (fun (v : MV) (μ' : MH) => ∃ b, truthy μ' v = some b ∧ if e' :: l = [] ∨ b = true then F b μ' else evOr G Φ X0 (e' :: l) fz vars (fun v μ' => ∃ b, truthy μ' v = some b ∧ F b μ') μ') =
              (fun v μ' => ∃ b, truthy μ' v = some b ∧ if b = true then (∃ b, truthy μ' v = some b ∧ F b μ') else evOr G Φ X0 (e' :: l) fz vars (fun v μ' => ∃ b, truthy μ' v = some b ∧ F b μ') μ') := by
            funext v μ'
            apply propext
            constructor
            · rintro ⟨b, hb, hh⟩
              refine ⟨b, hb, ?_⟩
              cases b
              · simpa using hh
              · rw [if_pos (.inr rfl)] at hh; rw [if_pos rfl]; exact ⟨_, hb, hh⟩
            · rintro ⟨b, hb, hh⟩
              refine ⟨b, hb, ?_⟩
              cases b
              · simpa using hh
              · rw [if_pos rfl] at hh; rw [if_pos (.inr rfl)]; obtain ⟨b', hb', hh⟩ := hh; rw [hb] at hb'; cases hb'; exact hh
          rw [q]; exact hq
    show wpAny _ A (isTrue x env (eval x env) >>= _) _ _ s
    refine wpAny_bind (wpAny_mono (hl e (.head _) S x env vars fz μ s (fun b μ' => if l = [] ∨ b = isOr then F b μ' else (if isOr then evOr G Φ X0 l fz vars (fun v μ' => ∃ b, truthy μ' v = some b ∧ F b μ') μ' else evAnd G Φ X0 l fz vars (fun v μ' => ∃ b, truthy μ' v = some b ∧ F b μ') μ')) A E h'.1 hA C key) (fun b s₁ h₁ => ?_) fun _ _ e => e)
    obtain ⟨μ₁, hq₁, r₁, g₁⟩ := h₁
    by_cases hbo : b = isOr
    · subst hbo
      rw [if_pos (.inr rfl)] at hq₁
      cases b <;> exact wpAny_pure ⟨μ₁, hq₁, r₁, g₁⟩
    · by_cases hn : l = []
      · rw [if_pos (.inl hn)] at hq₁
        subst hn
        cases xs with
        | cons _ _ => simp [isEs] at h'
        | nil =>
          cases b <;> cases isOr <;> first
            | exact absurd rfl hbo
            | exact wpAny_pure ⟨μ₁, hq₁, r₁, g₁⟩
      · rw [if_neg (by simp [hn, hbo])] at hq₁
        have rest := Pb isOr (fun e'' he => hl e'' (.tail _ he)) (E := E) h'.2 hA (C.grow g₁ r₁) hq₁
        cases b <;> cases isOr <;> first
          | exact absurd rfl hbo
          | exact wpAny_mono rest (fun v' s₃ h₃ => h₃.trans g₁) fun _ _ e => e
  | [], _, S, env, vars, fz, _ :: _, μ, s, F, A, E => fun h hA C hq => (Bool.false_ne_true h).elim
  | _ :: _, _, S, env, vars, fz, [], μ, s, F, A, E => fun h hA C hq => (Bool.false_ne_true h).elim
theorem st_and {l : List ME} (hl : ∀ e ∈ l, ST prog w G h₀ Φ d e) : ST prog w G h₀ Φ d (.and l) := fun S x env vars fz μ s F A E h hA C hq => by
  replace h := inv_and h
  obtain ⟨xs, p, rfl, h⟩ := h
  exact Pb false hl h hA C hq
theorem st_or {l : List ME} (hl : ∀ e ∈ l, ST prog w G h₀ Φ d e) : ST prog w G h₀ Φ d (.or l) := fun S x env vars fz μ s F A E h hA C hq => by
  replace h := inv_or h
  obtain ⟨xs, p, rfl, h⟩ := h
  exact Pb true hl h hA C hq
theorem Pu : ∀ {es : List ME} (hl : ∀ e ∈ es, SE prog w G h₀ Φ d e) {S : Sc} {env : Env} {vars : MVars} {fz : List Addr} {ops : List COp} {os : List CmpOp} {xs : List PySem.Expr} {a : MV} {va : Value} {μ : MH} {s : Shared} {F : Bool → MH → Prop} {A : Around} {E : Value → Shared → Prop} {pos : Pos}, copsIs ops os = true → isEs S es xs = true → OkA d A → Cur prog w h₀ S env vars fz μ s →
    RepV s.heap a va → evCmp G Φ X0 es ops a fz vars (fun v μ' => ∃ b, truthy μ' v = some b ∧ F b μ') μ → wpAny (model prog w) A (testChain pos va os (evalEach xs env)) (PostB prog w fz μ s F) E s
  | e :: es, hl, S, env, vars, fz, op :: ops, o :: os, x :: xs, a, va, μ, s, F, A, E, pos => fun ho h hA C ra hq => by
    simp only [copsIs, Bool.and_eq_true] at ho
    replace h := Xw h
    have step := hl e (.head _) S x env vars fz μ s _ A E h.1 hA C hq
    cases es with
    | nil =>
      cases xs with
      | cons _ _ => simp [isEs] at h
      | nil =>
      cases ops with
      | cons _ _ =>
        cases os with
        | nil => simp [copsIs] at ho
        | cons o' os =>
          show wpAny _ A (holding [va] (eval x env) >>= _) _ _ s
          refine wpAny_bind (wpAny_holding (wpAny_mono step (fun v s₁ h₁ => ?_) fun _ _ e => e))
          obtain ⟨_, _, ⟨b, _, f⟩, _⟩ := h₁
          exact f.elim
      | nil =>
        cases os with
        | cons _ _ => simp [copsIs] at ho
        | nil =>
          refine test_last (wpAny_mono step (fun v s₁ h₁ => ?_) fun _ _ e => e)
          obtain ⟨mv, μ₁, ⟨b, hb, b', hb', hq₁⟩, rv, r₁, g₁⟩ := h₁
          simp only [truthy, Option.some.injEq] at hb'; subst hb'
          exact Az ho.1 (ra.keepT (g₁.keepT C.heap)) rv r₁ hA hb fun s' st => wpAny_truthy_bool (PostB.trans (g₁.trans st.grow) ⟨μ₁, hq₁, by rw [st.1]; exact r₁, .refl⟩)
    | cons e' es =>
      cases xs with
      | nil => simp [isEs] at h
      | cons x' xs =>
      cases ops with
      | nil =>
        cases os with
        | cons _ _ => simp [copsIs] at ho
        | nil =>
          show wpAny _ A (holding [va] (eval x env) >>= _) _ _ s
          refine wpAny_bind (wpAny_holding (wpAny_mono step (fun v s₁ h₁ => ?_) fun _ _ e => e))
          obtain ⟨_, _, ⟨b, _, f⟩, _⟩ := h₁
          exact f.elim
      | cons op' ops =>
        cases os with
        | nil => simp [copsIs] at ho
        | cons o' os =>
          refine test_link (wpAny_mono step (fun v s₁ h₁ => ?_) fun _ _ e => e)
          obtain ⟨mv, μ₁, ⟨b, hb, hq₁⟩, rv, r₁, g₁⟩ := h₁
          refine Az ho.1 (ra.keepT (g₁.keepT C.heap)) rv r₁ hA hb fun s' st => wpAny_truthy_bool ?_
          have r₂ : RepH prog w μ₁ s'.heap := by rw [st.1]; exact r₁
          cases b with
          | false =>
            obtain ⟨b', hb', hq₁⟩ := hq₁
            simp only [truthy, Option.some.injEq] at hb'; subst hb'
            exact PostB.trans (g₁.trans st.grow) ⟨μ₁, hq₁, r₂, .refl⟩
          | true =>
            refine wpAny_mono (Pu (fun e'' he => hl e'' (.tail _ he)) ho.2 h.2 hA (C.grow (g₁.trans st.grow) r₂) (by rw [st.1]; exact rv) hq₁) (fun v' s₃ h₃ => h₃.trans (g₁.trans st.grow)) fun _ _ e => e
  | [], _, _, _, _, _, _, _, _, _, _, _, _, _, _, _, _ => fun _ _ _ _ _ hq => False.elim hq
  | _ :: _, _, _, _, _, _, [], _, _, _, _, _, _, _, _, _, _ => fun _ _ _ _ _ hq => False.elim hq
  | _ :: _, _, _, _, _, _, _ :: _, [], _, _, _, _, _, _, _, _, _ => fun ho _ _ _ _ hq => by simp [copsIs] at ho
  | _ :: _, _, _, _, _, _, _ :: _, _ :: _, [], _, _, _, _, _, _, _, _ => fun _ h _ _ _ hq => (Bool.false_ne_true h).elim
theorem st_cmp {a : ME} {ops : List COp} {es : List ME} (ha : SE prog w G h₀ Φ d a) (hl : ∀ e ∈ es, SE prog w G h₀ Φ d e) : ST prog w G h₀ Φ d (.cmp a ops es) := fun S x env vars fz μ s Q A E h hA C hq => by
  replace h := Bc h
  obtain ⟨l, os, cs, p, rfl, h⟩ := h
  simp only [Bool.and_eq_true] at h
  show wpAny _ A (eval l env >>= fun v => testChain p v os (markedEach os cs (evalEach cs env))) _ _ s
  rw [markedEach_of_false _ _ _ (Yz os h.2)]
  refine wpAny_bind (wpAny_mono (ha S _ env vars fz μ s _ A E h.1.1 hA C hq) (fun v s₁ h₁ => ?_) fun _ _ e => e)
  obtain ⟨mv, μ₁, hq₁, rv, r₁, g₁⟩ := h₁
  exact wpAny_mono (Pu hl h.1.2 h.2 hA (C.grow g₁ r₁) rv hq₁) (fun v' s₃ h₃ => h₃.trans g₁) fun _ _ e => e
end
end Mine
end
section
namespace Mine
open PySem PySem.Calls PyProof.Rows PySem.W
section
variable {prog : Program} {w : World} {G : String → Option MV} {Γ : String → Option MFun} {h₀ : Heap} {mg mb : Str → Option Value} {Φ : CallSpec} {d : Nat}
theorem se_call (hc : SC prog w h₀ Φ d) {f : String} {l : List ME} (hl : ∀ e ∈ l, SS prog w G h₀ Φ d e) : SE prog w G h₀ Φ d (.call f l) := fun S x env vars fz μ s Q A E h hA C hq => by
  replace h := V3 h
  obtain ⟨g, np, as, p, rfl, hg, h⟩ := h
  simp only [Bool.and_eq_true, decide_eq_true_eq, List.contains_iff_mem] at h
  obtain ⟨⟨hf, ha⟩, hn⟩ := h
  obtain ⟨fa, m, hm, hmf, o, fd, ho, hfd⟩ := C.known f hf
  obtain ⟨rfl, hk, hd⟩ := Z8 hg
  refine wpAny_Call_ofName (Name_function_global C.fr.kind (by unfold Env.kindOf; rw [C.fr.names]; exact hk) (loadGlobal_global (mg := m) ?_ hmf ?_) hd)
  · rw [C.fr.glob]
    exact hm.keeps fun b o e => (C.base b o e).1
  rw [Y4 p ha]
  show wpAny _ A (callWith p (.ref fa) [] _ []) _ _ s
  refine callWith_function (o := o) (fd := fd) (Xz (Xv as) (wpAny_mono (Yc hl ha hA C hq) (fun vs s₁ h₁ => ?_) fun _ _ e => e))
  obtain ⟨ms, μ₁, hq₁, rv, r₁, g₁⟩ := h₁
  have C₁ := C.grow g₁ r₁
  refine ⟨⟨(C₁.base _ _ ho).1, hfd⟩, ?_⟩
  refine wpAny_mono (hc f ms vs fz μ₁ s₁ Q A E fa hA C₁.base r₁ C₁.fzin rv ⟨m, hm, hmf, o, fd, ho, hfd⟩ hq₁) (fun v' s₃ h₃ => h₃.trans g₁) fun _ _ e => e
theorem se_isinst (pg : PG prog w G Γ h₀ mg mb) {a : ME} {t : TY} (ha : SS prog w G h₀ Φ d a) : SE prog w G h₀ Φ d (.isinst a t) := fun S x env vars fz μ s Q A E h hA C hq => by
  replace h := inv_isinst h
  obtain ⟨g, np, y, ty, tp, p, rfl, h1, h2, h3⟩ := h
  refine wpAny_Call_ofName (Zq pg C h1 (v := .builtin "isinstance") (by decide) ?_)
  show wpAny _ A (callWith p (.builtin "isinstance") [] (backTo p (starEach [y, .Name ty tp] env)) []) _ _ s
  have e1 : backTo p (starEach [y, .Name ty tp] env) = [(false, eval y env), (false, eval (.Name ty tp) env)] := by
    rw [Zv h3]; rfl
  rw [e1]
  refine callWith_builtin rfl (Xz rfl ?_)
  refine Calls.spliced_cons (wpAny_mono (ha.1 S y env vars fz μ s _ A E h3 hA C hq) (fun v s₁ h₁ => ?_) fun _ _ e => e)
  obtain ⟨mv, μ₁, ⟨b, hb, hq₁⟩, rv, r₁, g₁⟩ := h₁
  refine Calls.spliced_cons (Zq pg (C.grow g₁ r₁) h2 (v := .type (tyName t)) (by cases t <;> decide) ?_)
  refine Calls.spliced_nil ?_
  exact op_isinst rv r₁ hb fun s' st => PostV.trans g₁ (Z6 hq₁ r₁ (by simp [RepV]) st)
theorem attr_base {ov : PySem.Expr} (h : notCall0 ov = true) (attr : Str) (env : Env) (whole : Sem Value) : attributeBase ov attr env whole = whole := by
  cases ov <;> try rfl
  rename_i f as kw p
  cases f <;> try rfl
  cases as <;> try rfl
  cases kw <;> first | rfl | exact (Bool.false_ne_true h).elim
theorem se_meth {m : MM} {o : ME} {l : List ME} (ho : SE prog w G h₀ Φ d o) (hl : ∀ e ∈ l, SS prog w G h₀ Φ d e) : SE prog w G h₀ Φ d (.meth m o l) := fun S x env vars fz μ s Q A E h hA C hq => by
  replace h := inv_meth h
  obtain ⟨ov, ap, as, p, rfl, hline, hc0, hov, has, hlen⟩ := h
  refine wpAny_Call_method_late ?_ ?_ (by simpa using hline) (Y4 p has) (wpAny_mono (ho S ov env vars fz μ s _ A E hov hA C hq) (fun v s₁ h₁ => ?_) fun _ _ e => e)
  · exact attr_base hc0 _ _ _
  · rw [Y4 p has]
    have : as.length = l.length := Nh has
    simp only [List.all_map, Bool.and_eq_true, decide_eq_true_eq]
    refine ⟨⟨by simp, rfl⟩, ?_⟩
    simp only [List.length_nil, List.isEmpty_nil, if_true]; lia
  · obtain ⟨mv, μ₁, ⟨hk, hq₁⟩, rv, r₁, g₁⟩ := h₁
    obtain ⟨T, pa, slot, hty, hT, hd⟩ := meth_ok rv r₁ hk
    refine ⟨T, methId m, pa, slot, hty, hT, hd, ?_⟩
    refine callWith_builtin (Xv as) (Xz (Xv as) (wpAny_mono (Yc hl has hA (C.grow g₁ r₁) hq₁) (fun vs s₂ h₂ => ?_) fun _ _ e => e))
    obtain ⟨ms, μ₂, hq₂, rs, r₂, g₂⟩ := h₂
    exact wpAny_mono (op_meth hA (rv.keepT (g₂.keepT r₁)) rs r₂ ((C.grow g₁ r₁).grow g₂ r₂).fzin hq₂) (fun v' s₃ h₃ => h₃.trans (g₁.trans g₂)) fun _ _ e => e
noncomputable def biVal (f : BI) : Value := match f with
  | .len => .builtin "len" | .min2 => .builtin "min" | .max2 => .builtin "max" | .maxD => .builtin "max" | .max1 => .builtin "max" | .sorted => .builtin "sorted" | .sortedR => .builtin "sorted" | .sortedSet => .builtin "sorted"
  | .list => .type "list" | .dict => .type "dict" | .int => .type "int" | .str => .type "str" | .all => .builtin "all"
theorem op_bi {f : BI} {ms : List MV} {vs : List Value} {fz : List Addr} {μ : MH} {s : Shared} {Q : MQ} {A : Around} {E : Value → Shared → Prop} (hp : plainBI f = true) (hA : A.handled = none) (r : RepH prog w μ s.heap) (fi : FzIn fz μ) (hv : RepVs s.heap ms vs) (hm : sysModules < s.heap.objs.size) (h : biM fz f ms Q μ) :
    wpAny (model prog w) A (call (biVal f) vs) (PostV prog w fz μ s Q) E s := by
  cases f with
  | len =>
    replace h := K9 h; obtain ⟨m, rfl, h⟩ := h
    replace hv := hv.one; obtain ⟨v, rfl, hv⟩ := hv
    exact op_len hv r h
  | min2 =>
    replace h := a2_inv h; obtain ⟨m, n, rfl, h⟩ := h
    replace h := Z9 h; obtain ⟨x, y, rfl, rfl, h⟩ := h
    replace hv := hv.two; obtain ⟨v, u, rfl, ⟨t, rfl⟩, ⟨t', rfl⟩⟩ := hv
    exact op_min2 hA r h
  | max2 =>
    replace h := a2_inv h; obtain ⟨m, n, rfl, h⟩ := h
    replace h := Z9 h; obtain ⟨x, y, rfl, rfl, h⟩ := h
    replace hv := hv.two; obtain ⟨v, u, rfl, ⟨t, rfl⟩, ⟨t', rfl⟩⟩ := hv
    exact op_max2 hA r h
  | max1 => exact False.elim h
  | sorted =>
    replace h := K9 h; obtain ⟨mm, rfl, l, ns, hs, hi, hn, hf, h⟩ := h
    replace hv := hv.one; obtain ⟨v, rfl, hv⟩ := hv
    exact (A6 (b := false) r fi hv hi hn hf hA (Kx hs) h).1 rfl
  | list =>
    replace h := K9 h; obtain ⟨mm, rfl, l, hs, hi, hf, h⟩ := h
    replace hv := hv.one; obtain ⟨v, rfl, hv⟩ := hv
    exact op_list hA hv r fi hi hf (Kx hs) h
  | dict =>
    replace h := K9 h; obtain ⟨mm, rfl, h⟩ := h
    replace hv := hv.one; obtain ⟨v, rfl, hv⟩ := hv
    replace h := Jj h; obtain ⟨a, rfl, h⟩ := h
    obtain rfl : v = .ref a := hv
    cases q : μ a with
    | none => rw [q] at h; exact False.elim h
    | some mo =>
      rw [q] at h
      cases mo with
      | list l => obtain ⟨ps, e, hf, h⟩ := h; exact Pf r fi q e hf hA hm h
      | idict l => exact Ay r fi q h.1 hm h.2
      | odict l x => exact False.elim h
  | int =>
    replace h := K9 h; obtain ⟨mm, rfl, h⟩ := h
    replace h := boolV_inv h; obtain ⟨b, rfl, h⟩ := h
    replace hv := hv.one; obtain ⟨v, rfl, hv⟩ := hv
    obtain rfl : v = .bool b := hv
    exact call_int_bool (Xp h r ⟨_, rfl⟩ rfl rfl rfl)
  | all =>
    replace h := K9 h; obtain ⟨mm, rfl, h⟩ := h
    replace h := Jj h; obtain ⟨a, rfl, l, bs, e, hb, hf, h⟩ := h
    replace hv := hv.one; obtain ⟨v, rfl, hv⟩ := hv
    obtain rfl : v = .ref a := hv
    exact op_all hA r e hb hf h
  | str => exact False.elim h
  | maxD => cases hp
  | sortedR => cases hp
  | sortedSet => cases hp
theorem biVal_mem (f : BI) : (biName f, biVal f) ∈ biTab := by cases f <;> decide
theorem U5 (pg : PG prog w G Γ h₀ mg mb) {f : BI} {l : List ME} (hl : ∀ e ∈ l, SS prog w G h₀ Φ d e) (hp : plainBI f = true) : SE prog w G h₀ Φ d (.bi f l) := fun S x env vars fz μ s Q A E h hA C hq => by
  obtain ⟨g, np, as, p, rfl, hg, has⟩ := inv_bi hp h
  refine wpAny_Call_ofName (Zq pg C hg (biVal_mem f) ?_)
  rw [Y4 p has]
  have fin : wpAny (model prog w) A (spliced (as.map fun x => (false, eval x env))) (fun vs s' => wpAny (model prog w) A (call (biVal f) vs) (PostV prog w fz μ s Q) E s') E s := by
    refine wpAny_mono (Yc hl has hA C hq) (fun vs s₁ h₁ => ?_) fun _ _ e => e
    obtain ⟨ms, μ₁, hq₁, rv, r₁, g₁⟩ := h₁
    have C₁ := C.grow g₁ r₁
    exact wpAny_mono (op_bi hp hA.hand r₁ C₁.fzin rv (mods_lt pg C₁) hq₁) (fun v' s₃ h₃ => h₃.trans g₁) fun _ _ e => e
  cases f <;> simp only [plainBI, Bool.false_eq_true] at hp <;> first
    | exact callWith_builtin (Xv as) (Xz (Xv as) fin)
    | exact PySem.callWith_type (Xv as) (Xz (Xv as) fin)
theorem se_sortedR (pg : PG prog w G Γ h₀ mg mb) {l : List ME} (hl : ∀ e ∈ l, SS prog w G h₀ Φ d e) : SE prog w G h₀ Φ d (.bi .sortedR l) := fun S x env vars fz μ s Q A E h hA C hq => by
  replace h := inv_sortedR h
  obtain ⟨g, np, as, k2, p1, kp, p, rfl, hg, has⟩ := h
  refine wpAny_Call_ofName (Zq pg C hg (v := .builtin "sorted") (by decide) ?_)
  cases as with
  | nil =>
    cases l with
    | cons _ _ => simp [isEs] at has
    | nil => exact False.elim hq
  | cons a as =>
  have ha : isE S (l.headD .cnone) a = true := by cases l with
    | nil => simp [isEs] at has
    | cons e l => simp only [isEs, Bool.and_eq_true] at has; exact has.1
  refine callWith_kw ?_ (by rw [Zv ha]; rfl) (by rw [Y4 p has]; exact Xv _) rfl rfl
  rw [Y4 p has]
  refine wpAny_mono (Yc hl has hA C hq) (fun vs s₁ h₁ => ?_) fun _ _ e => e
  obtain ⟨ms, μ₁, hq₁, rv, r₁, g₁⟩ := h₁
  have C₁ := C.grow g₁ r₁
  refine evalAll_cons (wpAny_bind (wpAny_pure (wpAny_bind (wpAny_standAt (wpAny_pure (evalAll_nil ?_))))))
  replace hq₁ := K9 hq₁; obtain ⟨v, rfl, l', ns, hs, hi, hn, hf, hq₁⟩ := hq₁
  obtain ⟨u, hvs, rw'⟩ := rv.one; subst hvs; replace rv := rw'
  exact wpAny_mono (A6 (b := true) r₁ C₁.fzin rv hi hn hf hA.hand (Kx hs) (by simpa using hq₁)).2 (fun v' s₃ h₃ => h₃.trans g₁) fun _ _ e => e
theorem se_maxD (pg : PG prog w G Γ h₀ mg mb) {l : List ME} (hl : ∀ e ∈ l, SS prog w G h₀ Φ d e) : SE prog w G h₀ Φ d (.bi .maxD l) := fun S x env vars fz μ s Q A E h hA C hq => by
  replace h := inv_maxD h
  obtain ⟨g, np, y, a, i, k2, p1, kp, p2, rfl, rfl, hg, ha⟩ := h
  refine wpAny_Call_ofName (Zq pg C hg (v := .builtin "max") (by decide) ?_)
  refine callWith_kw ?_ (by rw [Zv ha]; rfl) (by rw [Zv ha]; rfl) rfl rfl
  rw [Zv ha]
  refine Calls.spliced_cons (wpAny_mono ((hl a (.head _)).1 S y env vars fz μ s _ A E ha hA C hq) (fun v s₁ h₁ => ?_) fun _ _ e => e)
  refine Calls.spliced_nil ?_
  obtain ⟨mv, μ₁, hq₁, rv, r₁, g₁⟩ := h₁
  refine evalAll_cons (wpAny_bind (wpAny_Constant_int (wpAny_bind (wpAny_standAt (wpAny_pure (evalAll_nil ?_))))))
  obtain ⟨l', ns, hs, hi, hn, hf, hq₁⟩ : ∃ l ns, isStrV mv = false ∧ items μ₁ mv = some l ∧ intsOf l = some ns ∧ fits l.length ∧ Q (.int ((maxI ns).getD i)) μ₁ := hq₁
  have st : Still s₁ { s₁ with toks := s₁.toks + 1 } := ⟨rfl, rfl, rfl⟩
  refine wpAny_mono (op_max (s := { s₁ with toks := s₁.toks + 1 }) (dflt := some (i, s₁.toks)) (m := (maxI ns).getD i) hA.hand rv r₁ hi hn (Kx hs) (by cases maxI ns <;> rfl) hq₁) (fun v' s₃ h₃ => h₃.trans (g₁.trans st.grow)) fun _ _ e => e
end
end Mine
end
section
namespace Mine
open PySem PySem.Calls PyProof.Rows PySem.W
structure MWalk (prog : Program) (w : World) (A : Around) (I : Addr) (fp wr : List Addr) (all : List MV) (St : Nat → Heap → Prop) : Prop where
  sub : ∀ b ∈ wr, b ∈ fp
  alive : ∀ i h, St i h → ∀ b ∈ wr, ∃ o, h.get? b = some o
  frame : ∀ i h h', St i h → KeepsT h h' → (∀ b ∈ fp, ∀ o, h.get? b = some o → h'.get? b = some o) → St i h'
  item : ∀ i m (s : Shared) (Q : Option Value → Shared → Prop) (E : Value → Shared → Prop), all[i]? = some m → St i s.heap →
    (∀ v h' tk, RepV h' m v → St (i + 1) h' → KeepsT s.heap h' → (∀ b o, b ∉ wr → s.heap.get? b = some o → h'.get? b = some o) → Q (some v) { s with heap := h', toks := tk }) → wpAny (model prog w) A (pyNext (.ref I)) Q E s
  done : ∀ (s : Shared) (Q : Option Value → Shared → Prop) (E : Value → Shared → Prop), St all.length s.heap →
    (∀ h' tk, KeepsT s.heap h' → (∀ b o, b ∉ wr → s.heap.get? b = some o → h'.get? b = some o) → Q none { s with heap := h', toks := tk }) → wpAny (model prog w) A (pyNext (.ref I)) Q E s
  self : ∀ i (s : Shared) (Q : Value → Shared → Prop) (E : Value → Shared → Prop), St i s.heap → Q (.ref I) s → wpAny (model prog w) A (pyIter (.ref I)) Q E s
  go : ∀ target i v (s : Shared) (Q : Unit → Shared → Prop) (E : Value → Shared → Prop), St (i + 1) s.heap → Q () s → wpAny (model prog w) A (letOwnedTupleGo target (.ref I) v) Q E s
noncomputable def iterCls : List String := ["list_iterator", "tuple_iterator", "dict_keyiterator", "str_ascii_iterator", "str_iterator", "range_iterator", "list_reverseiterator"]
noncomputable def ItObj (h : Heap) (I : Addr) : Prop := ∃ o T, h.get? I = some o ∧ o.cls = .type T ∧ T ∈ iterCls ∧ ∃ vs, o.data = .fields vs
section
variable {prog : Program} {w : World} {A : Around}
theorem ItObj.notImm {h : Heap} {I : Addr} (x : ItObj h I) : ∀ o, h.get? I = some o → ¬ ImmCls o := by
  obtain ⟨o, T, ho, hc, hT, _⟩ := x
  intro o' ho' hi
  rw [ho] at ho'; cases ho'
  unfold ImmCls at hi
  rw [hc] at hi
  simp only [iterCls, List.mem_cons, List.not_mem_nil, or_false] at hT
  rcases hT with rfl | rfl | rfl | rfl | rfl | rfl | rfl <;> simp at hi
theorem ItObj.go {s : Shared} {I : Addr} (x : ItObj s.heap I) {target : PySem.Expr} {v : Value} {Q : Unit → Shared → Prop} {E : Value → Shared → Prop} (h : Q () s) : wpAny (model prog w) A (letOwnedTupleGo target (.ref I) v) Q E s := by
  obtain ⟨o, T, ho, hc, hT, vs, hd⟩ := x
  have hn : (["enumerate", "zip", "dict_itemiterator", "dict_reverseitemiterator", "odict_iterator", "itertools.zip_longest", "itertools.pairwise"].contains T) = false := by
    simp only [iterCls, List.mem_cons, List.not_mem_nil, or_false] at hT
    rcases hT with rfl | rfl | rfl | rfl | rfl | rfl | rfl <;> decide
  cases target <;> first
    | exact wpAny_pure h
    | (cases v <;> first
        | exact wpAny_pure h
        | (refine wpAny_bind (wpAny_load ho ?_)
           rw [hc, hd]
           simp only [hn, Bool.false_and]
           exact wpAny_pure h))
theorem MWalk.of {I : Addr} {fp : List Addr} {n : Nat} {P : Nat → Value → Prop} {St : Nat → Heap → Prop} {hc : Heap} {all : List MV} (W : Walks prog w A I fp [I] n P St) (hn : n = all.length) (ni : ∀ i h, St i h → ItObj h I)
    (hP : ∀ i v h', P i v → KeepsT hc h' → ∃ m, all[i]? = some m ∧ RepV h' m v) : MWalk prog w A I fp [I] all (fun i h => St i h ∧ KeepsT hc h) where
  sub := W.sub
  alive := fun i h st b hb => by simp at hb; subst hb; obtain ⟨o, _, ho, _⟩ := ni i h st.1; exact ⟨o, ho⟩
  frame := fun i h h' st k hk => ⟨W.frame i h h' st.1 hk, fun b o e hi => k b o (st.2 b o e hi) hi⟩
  item := fun i m s Q E hm st hQ => by
    have hi : i < n := by rw [hn]; exact (List.getElem?_eq_some_iff.mp hm).1
    refine W.item i s Q E hi st.1 fun v h' tk hv st' hk => ?_
    have kt : KeepsT s.heap h' := fun b o e hi => hk b o (fun q => by simp at q; subst q; exact (ni i _ st.1).notImm o e hi) e
    have kc : KeepsT hc h' := fun b o e hi => kt b o (st.2 b o e hi) hi
    obtain ⟨m', hm', r⟩ := hP i v h' hv kc
    rw [hm] at hm'; cases hm'
    exact hQ v h' tk r ⟨st', kc⟩ kt hk
  done := fun s Q E st hQ => by
    refine W.done s Q E (hn ▸ st.1) fun h' tk hk => ?_
    have kt : KeepsT s.heap h' := fun b o e hi => hk b o (fun q => by simp at q; subst q; exact (ni _ _ st.1).notImm o e hi) e
    exact hQ h' tk kt hk
  self := fun i s Q E st hQ => W.self i s Q E st.1 hQ
  go := fun target i v s Q E st hQ => (ni _ _ st.1).go hQ
end
section
variable {prog : Program} {w : World} {A : Around} {E : Value → Shared → Prop} {fz : List Addr} {μ : MH} {s : Shared}
inductive SrcAt (prog : Program) (w : World) (A : Around) (μ : MH) (held : List Addr) (all : List MV) (s₀ : Shared) (it : Value) (s : Shared) : Prop
  | mk (I : Addr) (fp wr : List Addr) (St : Nat → Heap → Prop) (e : it = .ref I) (W : MWalk prog w A I fp wr all St) (st : St 0 s.heap) (hfp : ∀ b ∈ fp, (μ b = none ∨ b ∈ held) ∧ ∃ o, s.heap.get? b = some o ∧ (∀ v, o.data ≠ .cell v) ∧ (b ∈ held ∨ ∀ es ep, o.data ≠ .dict es ep)) (hwr : ∀ b ∈ wr, s₀.heap.get? b = none ∧ μ b = none)
    (keep : ∀ b o, s₀.heap.get? b = some o → s.heap.get? b = some o) (os : s.os = s₀.os) (gens : s.gens = s₀.gens)
theorem Zf {oI : Obj} {fp : List Addr} {n : Nat} {P : Nat → Value → Prop} {St : Nat → Heap → Prop} {held : List Addr} {all : List MV} (r : RepH prog w μ s.heap)
    (W : Walks prog w A s.heap.objs.size fp [s.heap.objs.size] n P St) (hn : n = all.length) (hst : St 0 (s.heap.push oI)) (ni : ∀ i h, St i h → ItObj h s.heap.objs.size)
    (hP : ∀ i v h', P i v → KeepsT s.heap h' → ∃ m, all[i]? = some m ∧ RepV h' m v) (hfp : ∀ b ∈ fp, b = s.heap.objs.size ∨ ((μ b = none ∨ b ∈ held) ∧ ∃ o, s.heap.get? b = some o ∧ (∀ v, o.data ≠ .cell v) ∧ (b ∈ held ∨ ∀ es ep, o.data ≠ .dict es ep))) :
    SrcAt prog w A μ held all s (.ref s.heap.objs.size) { s with heap := s.heap.push oI } := by
  have kp : ∀ b o, s.heap.get? b = some o → (s.heap.push oI).get? b = some o := fun b o e => Heap.get?_push_of_some _ e
  refine ⟨_, fp, [s.heap.objs.size], _, rfl, MWalk.of (hc := s.heap) W hn ni hP, ⟨hst, .of_all kp⟩, fun b hb => ?_, fun b hb => ?_, kp, rfl, rfl⟩
  · rcases hfp b hb with rfl | ⟨h1, o, h2⟩
    · obtain ⟨o, _, ho, _, _, _, hd⟩ := ni _ _ hst; exact ⟨.inl (r.free (Z0 _)), o, ho, (fun v e => by rw [hd] at e; cases e), .inr fun es ep e => by rw [hd] at e; cases e⟩
    · exact ⟨h1, o, kp b o h2.1, h2.2⟩
  · simp at hb; subst hb; exact ⟨Z0 _, r.free (Z0 _)⟩
theorem tupNone {a : Addr} {o : Obj} (r : RepH prog w μ s.heap) (ho : s.heap.get? a = some o) (hi : ImmCls o) : μ a = none := by
  cases q : μ a with
  | none => rfl
  | some m => obtain ⟨y, hy, hn⟩ := (r a m q).obj; rw [ho] at hy; cases hy; exact absurd hi hn
theorem op_iter {v : MV} {x : Value} {all : List MV} (hA : A.handled = none) (hv : RepV s.heap v x) (r : RepH prog w μ s.heap) (e : items μ v = some all) (hns : isVals v = false) {Q : Value → Shared → Prop}
    (h : ∀ it s', SrcAt prog w A μ (Src.val v).held all s it s' → Q it s') : wpAny (model prog w) A (pyIter x) Q E s := by
  have lists : ∀ (a : Addr) (vs : List Value) (n : Nat), s.heap.get? a = some { cls := .type "list", data := .seq vs.toArray n } → x = .ref a → RepVs s.heap all vs → a ∈ (Src.val v).held → wpAny (model prog w) A (pyIter x) Q E s := by
    intro a vs n ho hx hr hh
    subst hx
    have lta := Heap.lt_size ho
    have hL : s.heap.IsList a vs.toArray := ⟨_, ho, rfl, n, rfl⟩
    refine wpAny_pyIter_list hL (h _ _ (Zf r (Walks.list hA s.heap.objs.size a (Nat.ne_of_lt lta) vs.toArray) (by simp [hr.length]) ⟨⟨_, Heap.get?_push_size _ rfl, rfl, rfl⟩, hL.push _⟩ ?_ ?_ ?_))
    · rintro i h ⟨⟨o, h1, h2, h3⟩, _⟩; exact ⟨o, _, h1, h2, by decide, _, h3⟩
    · intro i v h' hv' kt
      rw [List.getElem?_toArray] at hv'
      have hlt := (List.getElem?_eq_some_iff.mp hv').1
      have hlt2 : i < all.length := by rw [← hr.length]; exact hlt
      obtain ⟨y, h1, h2⟩ := hr.get (List.getElem?_eq_getElem hlt2)
      rw [hv'] at h1; cases h1
      exact ⟨_, List.getElem?_eq_getElem hlt2, h2.keepT kt⟩
    · intro b hb; simp at hb; rcases hb with rfl | rfl
      · exact .inl rfl
      · exact .inr ⟨.inr hh, _, ho, (fun v e => by cases e), .inl hh⟩
  have dicts : ∀ {K : Type} [DecidableEq K] (knd : PySem.KeyKind prog w K) (enc : K → MV) (he : ∀ k u h', knd.is k u = true → RepV h' (enc k) u) (a : Addr) (kv : List (K × MV)) (kvs : List (K × Value)), s.heap.DictOf knd a kvs → RepKV s.heap kv kvs → (a == sysModules) = false →
      all = kv.map (fun p => enc p.1) → a ∈ (Src.val v).held → (x = .ref a ∨ ∃ r, x = .ref r ∧ KeysView s.heap r a) → wpAny (model prog w) A (pyIter x) Q E s := by
    intro K _ knd enc he a kv kvs hD hk hs hal hh hx
    obtain ⟨ep, hat⟩ := hD.dictAt
    have lta := hat.lt_size
    have fin : ∀ hst, SrcAt prog w A μ (Src.val v).held all s (.ref s.heap.objs.size) { s with heap := s.heap.push hst } ∨ True := fun _ => .inr trivial
    have mk : ∀ oI, (s.heap.push oI).IsKeyIter s.heap.objs.size a 0 kvs.length ep → SrcAt prog w A μ (Src.val v).held all s (.ref s.heap.objs.size) { s with heap := s.heap.push oI } := by
      intro oI hI
      refine Zf r (Walks.dictKeys hA s.heap.objs.size a (Nat.ne_of_lt lta) kvs ep) (by simp [hal, hk.length]) ⟨hI, hat.push _⟩ ?_ ?_ ?_
      · rintro i h ⟨⟨o, h1, h2, h3⟩, _⟩; exact ⟨o, _, h1, h2, by decide, _, h3⟩
      · rintro i u h' ⟨k, y, h1, h2⟩ kt
        obtain ⟨m, h3, h4⟩ := Z5 hk h1
        exact ⟨enc k, by simp [hal, h3], he k u h' h2⟩
      · intro b hb; simp at hb; rcases hb with rfl | rfl
        · exact .inl rfl
        · obtain ⟨o, ho, hd⟩ : ∃ o, s.heap.get? b = some o ∧ ∀ v, o.data ≠ .cell v := by
            obtain ⟨o, es, ep, ho, hd⟩ := hD
            refine ⟨o, ho, fun v e => ?_⟩
            have := hd.2.1
            rw [this] at e; cases e
          exact .inr ⟨.inr hh, o, ho, hd, .inl hh⟩
    rcases hx with rfl | ⟨r', rfl, hr'⟩
    · exact wpAny_pyIter_dict hs hat (h _ _ (mk _ ⟨_, Heap.get?_push_size _ rfl, rfl, rfl⟩))
    · exact kdl_pyIter_keys hr' hat (h _ _ (mk _ ⟨_, Heap.get?_push_size _ rfl, rfl, rfl⟩))
  cases v with
  | none => cases e
  | bool b => cases e
  | int i => cases e
  | vals a => cases hns
  | str st =>
    obtain ⟨t, rfl⟩ := hv
    obtain rfl : chars st = all := Option.some.inj e
    have hP : ∀ (i : Nat) v h', SignAt st i v → KeepsT s.heap h' → ∃ m, (chars st)[i]? = some m ∧ RepV h' m v := by
      rintro i v h' ⟨c, u, hc, rfl⟩ kt
      refine ⟨.str ⟨#[c]⟩, ?_, by simp only [RepV]; exact ⟨u, rfl⟩⟩
      unfold chars
      rw [List.getElem?_map, Array.getElem?_toList, hc]; rfl
    refine wpAny_pyIter_strU ?_
    unfold strIterType
    split
    · refine h _ _ (Zf r (Walks.strAscii hA s.heap.objs.size st t) (by simp [chars]) ⟨_, Heap.get?_push_size _ rfl, rfl, rfl⟩ ?_ hP ?_)
      · rintro i h ⟨o, h1, h2, h3⟩; exact ⟨o, _, h1, h2, by decide, _, h3⟩
      · intro b hb; simp at hb; exact .inl hb
    · refine h _ _ (Zf r (Walks.strWide hA s.heap.objs.size st t) (by simp [chars]) ⟨_, Heap.get?_push_size _ rfl, rfl, rfl⟩ ?_ hP ?_)
      · rintro i h ⟨o, h1, h2, h3⟩; exact ⟨o, _, h1, h2, by decide, _, h3⟩
      · intro b hb; simp at hb; exact .inl hb
  | tup l =>
    obtain rfl : l = all := Option.some.inj e
    obtain ⟨a, vs, n, rfl, ho, hr⟩ := hv
    have lta := Heap.lt_size ho
    have hL : s.heap.IsTuple a vs.toArray := ⟨_, ho, rfl, n, rfl⟩
    refine wpAny_pyIter_tuple hL (h _ _ (Zf r (Walks.tuple hA s.heap.objs.size a (Nat.ne_of_lt lta) vs.toArray) (by simp [hr.length]) ⟨⟨_, Heap.get?_push_size _ rfl, rfl, rfl⟩, hL.push _⟩ ?_ ?_ ?_))
    · rintro i h ⟨⟨o, h1, h2, h3⟩, _⟩; exact ⟨o, _, h1, h2, by decide, _, h3⟩
    · intro i v h' hv' kt
      rw [List.getElem?_toArray] at hv'
      have hlt := (List.getElem?_eq_some_iff.mp hv').1
      have hlt2 : i < l.length := by rw [← hr.length]; exact hlt
      obtain ⟨y, h1, h2⟩ := hr.get (List.getElem?_eq_getElem hlt2)
      rw [hv'] at h1; cases h1
      exact ⟨_, List.getElem?_eq_getElem hlt2, h2.keepT kt⟩
    · intro b hb; simp at hb; rcases hb with rfl | rfl
      · exact .inl rfl
      · exact .inr ⟨.inl (tupNone r ho (.inl ⟨rfl, _, _, rfl⟩)), _, ho, (fun v e => by cases e), .inr fun es ep e => by cases e⟩
  | ref a =>
    obtain rfl : x = .ref a := hv
    replace e : itemsO (μ a) = some all := e
    cases q : μ a with
    | none => rw [q] at e; cases e
    | some mo =>
      rw [q] at e
      cases mo with
      | list l => obtain rfl := Option.some.inj e; obtain ⟨vs, ⟨n, h1⟩, h2⟩ := r a _ q; exact lists a vs n h1 rfl h2 (.head _)
      | idict l => obtain rfl := Option.some.inj e; obtain ⟨kvs, h1, h2, h3⟩ := r a _ q; exact dicts (intKind prog w) MV.int encI a l kvs h1 h2 h3 rfl (.head _) (.inl rfl)
      | odict l x =>
        obtain rfl := Option.some.inj e; obtain ⟨o, es, en, ep, kvs, h1, h2, hr, h4, h5, h6⟩ := r a _ q
        refine raw_iter h5 h1 (h _ _ (Zf r (raw_walk hA s.heap.objs.size a (Nat.ne_of_lt (Heap.lt_size h1.here)) _ ep o) (by rw [Array.size_push, List.length_append, List.length_map, ← hr.length, ← h2.length, Array.length_toList]; rfl) ⟨⟨_, Heap.get?_push_size _ rfl, rfl, rfl⟩, h1.keeps fun o e => Heap.get?_push_of_some _ e⟩ ?_ ?_ ?_))
        · rintro i h ⟨⟨o, q1, q2, q3⟩, _⟩; exact ⟨o, _, q1, q2, by decide, _, q3⟩
        · rintro i u h' ⟨e', he', rfl⟩ kt; exact odd_key h2 hr h4 kt he'
        · intro b hb; simp at hb; rcases hb with rfl | rfl
          · exact .inl rfl
          · exact .inr ⟨.inr (.head _), o, h1.here, (fun v e => by rw [h1.dat] at e; cases e), .inl (.head _)⟩
  | keys a =>
    obtain ⟨r', rfl, hr'⟩ := hv
    replace e : keysO (μ a) = some all := e
    cases q : μ a with
    | none => rw [q] at e; cases e
    | some mo =>
      rw [q] at e
      cases mo with
      | list l => cases e
      | idict l => obtain rfl := Option.some.inj e; obtain ⟨kvs, h1, h2, h3⟩ := r a _ q; exact dicts (intKind prog w) MV.int encI a l kvs h1 h2 h3 rfl (.head _) (.inr ⟨r', rfl, hr'⟩)
      | odict l x => cases e
theorem rangeL_get {a b c : Int} {i : Nat} (h : i < ((b - a + c - 1) / c).toNat) : (rangeL a b c)[i]? = some (a + c * i) := by
  unfold rangeL
  rw [List.getElem?_map, List.getElem?_range h]; rfl
theorem Yn {a b c : Int} : (rangeL a b c).length = ((b - a + c - 1) / c).toNat := by simp [rangeL]
theorem U6 {a b : Int} : Builtin.Range.rangeSize a b 1 = (((b - a + 1 - 1) / 1).toNat : Int) := by
  show (if a < b then (b - a - 1) / 1 + 1 else 0) = _
  rw [Int.ediv_one, Int.ediv_one, Int.add_sub_cancel, Int.sub_add_cancel]
  by_cases h : a < b
  · rw [if_pos h]; exact (Int.toNat_of_nonneg (Int.sub_nonneg_of_le (Int.le_of_lt h))).symm
  · rw [if_neg h, Int.toNat_of_nonpos (Int.sub_nonpos_of_le (Int.not_lt.mp h))]; rfl
theorem fits63 {a : Int} (h : in62 a = true) : Builtin.Range.rangeFitsLong a = true :=
  have h := Bool.and_eq_true_iff.mp h
  Bool.and_eq_true_iff.mpr ⟨decide_eq_true (Int.le_trans (by decide) (of_decide_eq_true h.1)), decide_eq_true (Int.lt_trans (of_decide_eq_true h.2) (by decide))⟩
theorem gap63 {a b : Int} (ha : in62 a = true) (hb : in62 b = true) : Builtin.Range.rangeFitsLong (b - a).toNat = true := by
  have ha := of_decide_eq_true (Bool.and_eq_true_iff.mp ha).1
  have hb := of_decide_eq_true (Bool.and_eq_true_iff.mp hb).2
  refine Bool.and_eq_true_iff.mpr ⟨decide_eq_true (Int.le_trans (by decide) (Int.natCast_nonneg _)), decide_eq_true ?_⟩
  have h : b - a < 2 ^ 63 := Int.sub_right_lt_of_lt_add (Int.lt_of_lt_of_le hb (Int.le_trans (by decide) (Int.add_le_add_left ha (2 ^ 63))))
  cases q : b - a with
  | ofNat n => rw [q] at h; exact h
  | negSucc n => exact (by decide : (0 : Int) < 2 ^ 63)
theorem small_one {a b : Int} (ha : in62 a = true) (hb : in62 b = true) : Builtin.Range.small a b 1 = true := by
  unfold Builtin.Range.small
  rw [U6, Int.ediv_one, Int.add_sub_cancel, fits63 ha, fits63 hb, gap63 ha hb, if_pos (by decide), show b + (1 - 1) = b from Int.add_zero b, fits63 hb, Bool.or_true]
  rfl
theorem one_of {c : Int} (hc : 0 < c) (hc' : c ≤ 1) : c = 1 := Int.le_antisymm hc' hc
theorem Pd {a b c : Int} (hc : 0 < c) (hc' : c ≤ 1) : Builtin.Range.rangeSize a b c = (((b - a + c - 1) / c).toNat : Int) := by
  obtain rfl := one_of hc hc'
  exact U6
theorem small_pos {a b c : Int} (ha : in62 a = true) (hb : in62 b = true) (hc : 0 < c) (hc' : c ≤ 1) : Builtin.Range.small a b c = true := by
  obtain rfl := one_of hc hc'
  exact small_one ha hb
theorem Pe {r' : Addr} {a b c : Int} {t u v : Tok} (hA : A.handled = none) (r : RepH prog w μ s.heap) (hr : IsRange s.heap r' a b c t u v) (ha : in62 a = true) (hb : in62 b = true) (hc : 0 < c) (hc' : c ≤ 1) {Q : Value → Shared → Prop}
    (h : ∀ it s', SrcAt prog w A μ [] ((rangeL a b c).map .int) s it s' → Q it s') : wpAny (model prog w) A (pyIter (.ref r')) Q E s := by
  refine wpAny_pyIter_range hr (small_pos ha hb hc hc') (h _ _ ?_)
  refine Zf r (Walks.range hA s.heap.objs.size a c ((b - a + c - 1) / c).toNat).bound (by simp [Yn]) ?_ ?_ ?_ ?_
  · show Heap.get? _ _ = _
    rw [Heap.get?_push_size _ rfl, Pd hc hc']; simp
  · intro i h hh; exact ⟨_, _, hh, rfl, by decide, _, rfl⟩
  · rintro i v h' ⟨hi, t, rfl⟩ kt
    refine ⟨.int (a + c * i), by rw [List.getElem?_map, rangeL_get hi]; rfl, ?_⟩
    simp only [RepV]; exact ⟨t, by rw [Int.mul_comm]⟩
  · intro b hb; simp at hb; exact .inl hb
theorem SrcAt.from {held : List Addr} {all : List MV} {it : Value} {s₁ s' : Shared} (k : ∀ b o, s.heap.get? b = some o → s₁.heap.get? b = some o) (ho : s₁.os = s.os) (hg : s₁.gens = s.gens) (x : SrcAt prog w A μ held all s₁ it s') : SrcAt prog w A μ held all s it s' := by
  obtain ⟨I, fp, wr, St, e, W, st, h1, h2, h3, h4, h5⟩ := x
  refine ⟨I, fp, wr, St, e, W, st, h1, fun b hb => ⟨?_, (h2 b hb).2⟩, fun b o e => h3 b o (k b o e), h4.trans ho, h5.trans hg⟩
  cases q : s.heap.get? b with
  | none => rfl
  | some o => have := k b o q; rw [(h2 b hb).1] at this; cases this
theorem src_rev {a : Addr} {l : List MV} (hA : A.handled = none) (r : RepH prog w μ s.heap) (q : lst μ a = some l) {Q : Value → Shared → Prop}
    (h : ∀ x s', (∀ (Q' : Value → Shared → Prop), (∀ it s'', SrcAt prog w A μ [a] l.reverse s it s'' → Q' it s'') → wpAny (model prog w) A (pyIter x) Q' E s') → Q x s') : wpAny (model prog w) A (call (.type "reversed") [.ref a]) Q E s := by
  obtain ⟨vs, ⟨n, ho⟩, hr, qa⟩ := Zp r q
  have lta := Heap.lt_size ho
  have hL : s.heap.IsList a vs.toArray := ⟨_, ho, rfl, n, rfl⟩
  refine call_reversed_list hL (h _ _ fun Q' hQ' => ?_)
  have hI : (s.heap.push (revObj a ((vs.toArray.size : Int) - 1))).IsRevIter s.heap.objs.size a ((vs.toArray.size : Int) - 1) := ⟨_, Heap.get?_push_size _ rfl, rfl, rfl⟩
  refine wpAny_pyIter_revIter (s := { s with heap := _ }) hI (hQ' _ _ (Zf r (Walks.listRev hA s.heap.objs.size a (Nat.ne_of_lt lta) vs.toArray).bound (by simp [hr.length]) ⟨Nat.zero_le _, by simpa using hI, hL.push _⟩ ?_ ?_ ?_))
  · rintro i h ⟨_, ⟨o, h1, h2, h3⟩, _⟩; exact ⟨o, _, h1, h2, by decide, _, h3⟩
  · rintro i v h' ⟨hi, hv'⟩ kt
    rw [List.getElem?_toArray] at hv'
    have hlt := (List.getElem?_eq_some_iff.mp hv').1
    have hl := hr.length
    simp only [List.size_toArray] at hv' hlt hi
    have hlt2 : vs.length - 1 - i < l.length := by lia
    obtain ⟨y, h1, h2⟩ := hr.get (List.getElem?_eq_getElem hlt2)
    rw [hv'] at h1; cases h1
    refine ⟨_, ?_, h2.keepT kt⟩
    rw [List.getElem?_reverse (by lia)]
    rw [show l.length - 1 - i = vs.length - 1 - i by simp [*]]
    exact List.getElem?_eq_getElem hlt2
  · intro b hb; simp at hb; rcases hb with rfl | rfl
    · exact .inl rfl
    · exact .inr ⟨.inr (by simp), _, ho, (fun v e => by cases e), .inr fun es ep e => by cases e⟩
end
section
variable {prog : Program} {w : World} {G : String → Option MV} {Γ : String → Option MFun} {h₀ : Heap} {mg mb : Str → Option Value} {Φ : CallSpec} {d : Nat}
  {S : Sc} {env : Env} {vars : MVars} {fz : List Addr} {μ : MH} {s : Shared} {A : Around} {E : Value → Shared → Prop}
inductive PostI (prog : Program) (w : World) (A : Around) (fz : List Addr) (μ : MH) (s : Shared) (K : Src → List MV → MH → Prop) (it : Value) (s₂ : Shared) : Prop
  | mk (src : Src) (all : List MV) (μ₁ : MH) (s₁ : Shared) (k : K src all μ₁) (hi : src.items μ₁ = some all) (r : RepH prog w μ₁ s₁.heap) (g : Grow fz μ s μ₁ s₁) (hat : SrcAt prog w A μ₁ src.held all s₁ it s₂)
theorem rangeM_of {vs : List MV} {l : List Int} {h : Heap} {vals : List Value} (e : rangeM vs = some l) (r : RepVs h vs vals) : ∃ b u, vals = [.int b u] ∧ in62 b = true ∧ l = rangeL 0 b 1 := by
  cases vs with
  | nil => cases e
  | cons v vs =>
    cases v with
    | int b =>
      cases vs with
      | nil =>
        obtain ⟨q, e⟩ := Uy (show (if in62 b = true then some (rangeL 0 b 1) else none) = some l from e)
        replace r := r.one; obtain ⟨y, rfl, t, rfl⟩ := r
        exact ⟨b, t, rfl, q, (Option.some.inj e).symm⟩
      | cons _ _ => cases e
    | _ => cases e
theorem Pv (pg : PG prog w G Γ h₀ mg mb) {k : SK} {its : List ME} (hl : ∀ e ∈ its, SS prog w G h₀ Φ d e) {iter : PySem.Expr} {as : List PySem.Expr} (hs : srcArgs S k iter = some as) (h : isEs S its as = true) (hA : OkA d A) (C : Cur prog w h₀ S env vars fz μ s)
    {K : Src → List MV → MH → Prop} (hq : evs G Φ X0 its fz vars (fun vs μ' => ∃ src all, mkSrc k vs = some src ∧ src.items μ' = some all ∧ K src all μ') μ) :
    (∀ x, foldedSetIterable iter env x = pure x) ∧ wpAny (model prog w) A (eval iter env) (fun x s₁ => wpAny (model prog w) A (pyIter x) (PostI prog w A fz μ s K) E s₁) E s := by
  have one62 : in62 0 = true := by decide
  cases k with
  | plain =>
    obtain rfl : [iter] = as := Option.some.inj hs
    match its, h, hl, hq with
    | [], h, _, _ => exact (Bool.false_ne_true h).elim
    | e :: _ :: _, h, _, _ => exact (Bool.false_ne_true (Xw h).2).elim
    | [e], h, hl, hq =>
      replace h := (Xw h).1
      refine ⟨fun x => folded_none h env x, ?_⟩
      refine wpAny_mono ((hl e (.head _)).1 S iter env vars fz μ s _ A E h hA C hq) (fun v s₁ h₁ => ?_) fun _ _ e => e
      obtain ⟨mv, μ₁, ⟨src, all, hm, hi, hK⟩, rv, r₁, g₁⟩ := h₁
      simp only [mkSrc] at hm
      split at hm
      · cases hm
      rename_i hnv
      cases hm
      exact op_iter hA.hand rv r₁ hi (by simpa using hnv) fun it s' hat => ⟨.val mv, all, μ₁, s₁, hK, hi, r₁, g₁, hat⟩
  | range =>
    replace hs := ifcall hs; obtain ⟨g, np, p, rfl, hg⟩ := hs
    refine ⟨fun x => rfl, ?_⟩
    refine wpAny_Call_ofName (Zq pg C hg (v := .type "range") (by decide) ?_)
    rw [Y4 p h]
    refine PySem.callWith_type (Xv as) (Xz (Xv as) ?_)
    refine wpAny_mono (Yc hl h hA C hq) (fun vs s₁ h₁ => ?_) fun _ _ e => e
    obtain ⟨ms, μ₁, ⟨src, all, hm, hi, hK⟩, rv, r₁, g₁⟩ := h₁
    simp only [mkSrc, Option.map_eq_some_iff] at hm
    obtain ⟨l, hl', rfl⟩ := hm
    simp only [Src.items, Option.some.injEq] at hi
    subst hi
    have kp : ∀ (oI : Obj) b o, s₁.heap.get? b = some o → (s₁.heap.push oI).get? b = some o := fun oI b o e => Heap.get?_push_of_some _ e
    obtain ⟨b, u, rfl, hb, rfl⟩ := rangeM_of hl' rv
    refine call_range_1 (Pe (s := { s₁ with heap := _, toks := _ }) hA.hand (r₁.ext (kp _)) (IsRange.new s₁.heap 0 b 1 _ _ _) one62 hb (by decide) (by decide) fun it s' hat => ?_)
    exact ⟨.ints _, _, μ₁, s₁, hK, rfl, r₁, g₁, SrcAt.from (s₁ := { s₁ with heap := _, toks := _ }) (kp _) rfl rfl hat⟩
  | rev =>
    replace hs := ifcall hs; obtain ⟨g, np, p, rfl, hg⟩ := hs
    refine ⟨fun x => rfl, ?_⟩
    refine wpAny_Call_ofName (Zq pg C hg (v := .type "reversed") (by decide) ?_)
    rw [Y4 p h]
    refine PySem.callWith_type (Xv as) (Xz (Xv as) ?_)
    refine wpAny_mono (Yc hl h hA C hq) (fun vs s₁ h₁ => ?_) fun _ _ e => e
    obtain ⟨ms, μ₁, ⟨src, all, hm, hi, hK⟩, rv, r₁, g₁⟩ := h₁
    match ms, hm, rv with
    | [], hm, _ => simp [mkSrc] at hm
    | _ :: _ :: _, hm, _ => simp [mkSrc] at hm
    | [m], hm, rv =>
      simp only [mkSrc, Option.some.injEq] at hm
      subst hm
      obtain ⟨v, hvs, hv⟩ := rv.one; subst hvs
      cases m with
      | ref a =>
        simp only [RepV] at hv; subst hv
        simp only [Src.items, Option.map_eq_some_iff] at hi
        obtain ⟨l, q, rfl⟩ := hi
        exact src_rev hA.hand r₁ q fun x s' hx => hx _ fun it s'' hat => ⟨.rev (.ref a), _, μ₁, s₁, hK, by simp [Src.items, q], r₁, g₁, hat⟩
      | _ => simp [Src.items] at hi
  | zip =>
    replace hs := ifcall hs; obtain ⟨g, np, p, rfl, hg⟩ := hs
    refine ⟨fun x => rfl, ?_⟩
    refine wpAny_Call_ofName (Zq pg C hg (v := .type "zip") (by decide) ?_)
    rw [Y4 p h]
    refine PySem.callWith_type (Xv as) (Xz (Xv as) ?_)
    refine wpAny_mono (Yc hl h hA C hq) (fun vs s₁ h₁ => ?_) fun _ _ e => e
    obtain ⟨ms, μ₁, ⟨src, all, hm, hi, hK⟩, rv, r₁, g₁⟩ := h₁
    simp [mkSrc] at hm
end
end Mine
end
section
namespace Mine
open PySem PySem.Calls PyProof.Rows PySem.W
section
variable {prog : Program} {w : World} {h₀ : Heap} {S : Sc} {env : Env} {vars : MVars} {fz : List Addr} {μ : MH} {s : Shared} {A : Around} {E : Value → Shared → Prop} {d : Nat}
theorem Cur.skip {wr : List Addr} {s' : Shared} (C : Cur prog w h₀ S env vars fz μ s) (kt : KeepsT s.heap s'.heap) (k : ∀ b o, b ∉ wr → s.heap.get? b = some o → s'.heap.get? b = some o) (hm : ∀ b ∈ wr, μ b = none) (hb : ∀ b ∈ wr, h₀.get? b = none) (hl : env.locals ∉ wr) (hc : ∀ x c, (x, c) ∈ env.cells → c ∉ wr) :
    Cur prog w h₀ S env vars fz μ s' where
  base := fun b o e => ⟨k b o (fun q => by rw [hb b q] at e; cases e) (C.base b o e).1, (C.base b o e).2⟩
  heap := fun a o e => (C.heap a o e).keeps kt fun y hy => k a y (fun q => by rw [hm a q] at e; cases e) hy
  fzin := C.fzin
  fr := C.fr.keep kt (fun o e => ⟨k _ o hl e, C.fr.fixl⟩) fun x c hx o e => ⟨k c o (hc x c hx) e, (C.fr.fixc x c hx).1⟩
  newl := C.newl
  newc := C.newc
  known := C.known
theorem Cur.ext {s' : Shared} (C : Cur prog w h₀ S env vars fz μ s) (k : ∀ b o, s.heap.get? b = some o → s'.heap.get? b = some o) : Cur prog w h₀ S env vars fz μ s' :=
  C.skip (wr := []) (.of_all k) (fun b o _ e => k b o e) (by simp) (by simp) (by simp) (by simp)
theorem Base.weak {cs : List Addr} (B : Base h₀ fz μ s) : Base h₀ (cs ++ fz) μ s := fun b o e => ⟨(B b o e).1, (B b o e).2.imp id fun m => List.mem_append_right _ m⟩
theorem FzIn.left {cs : List Addr} (f : FzIn (cs ++ fz) μ) : FzIn fz μ := fun b hb => f b (List.mem_append_right _ hb)
theorem Cur.weak {cs : List Addr} (C : Cur prog w h₀ S env vars fz μ s) (hcs : ∀ b ∈ cs, μ b ≠ none) : Cur prog w h₀ S env vars (cs ++ fz) μ s :=
  { C with base := C.base.weak, fzin := fun b hb => (List.mem_append.mp hb).elim (hcs b) (C.fzin b) }
theorem Be {src : Src} {all : List MV} (e : src.items μ = some all) : ∀ b ∈ src.held, μ b ≠ none := by
  intro b hb q
  cases src with
  | val v =>
    cases v with
    | ref a => obtain rfl := List.mem_singleton.mp hb; replace e : itemsO (μ b) = some all := e; rw [q] at e; cases e
    | keys a => obtain rfl := List.mem_singleton.mp hb; replace e : keysO (μ b) = some all := e; rw [q] at e; cases e
    | vals a => obtain rfl := List.mem_singleton.mp hb; replace e : valsO (μ b) = some all := e; rw [q] at e; cases e
    | _ => cases hb
  | «ints» l => cases hb
  | rev v =>
    cases v with
    | ref a => obtain rfl := List.mem_singleton.mp hb; simp [Src.items, lst, q] at e
    | _ => cases hb
  | zip x y => simp [Src.items] at e
theorem Grow.skip {wr : List Addr} {μ' : MH} {s' s'' : Shared} (g : Grow fz μ s μ' s') (k : ∀ b o, b ∉ wr → s'.heap.get? b = some o → s''.heap.get? b = some o) (hw : ∀ b ∈ wr, s.heap.get? b = none) (ho : s''.os = s'.os) (hg : s''.gens = s'.gens) : Grow fz μ s μ' s'' :=
  ⟨fun b o f e => by
    obtain ⟨e1, q⟩ := g.keep b o f e
    exact ⟨k b o (fun m => by rw [hw b m] at e; cases e) e1, q⟩, ho.trans g.os, hg.trans g.gens⟩
theorem GrowS.skip {wr : List Addr} {μ' : MH} {s' s'' : Shared} (g : GrowS env fz μ s μ' s') (k : ∀ b o, b ∉ wr → s'.heap.get? b = some o → s''.heap.get? b = some o) (hw : ∀ b ∈ wr, s.heap.get? b = none) (ho : s''.os = s'.os) (hg : s''.gens = s'.gens) : GrowS env fz μ s μ' s'' :=
  ⟨fun b o f l c e => by
    obtain ⟨e1, q⟩ := g.keep b o f l c e
    exact ⟨k b o (fun m => by rw [hw b m] at e; cases e) e1, q⟩, ho.trans g.os, hg.trans g.gens⟩
theorem Pt {t : MT} {tg : PySem.Expr} {mv : MV} {v : Value} {vars' : MVars} {Q : Unit → Shared → Prop} (hA : A.handled = none) (C : Cur prog w h₀ S env vars fz μ s) (ht : isTgt S t tg = true) (hv : RepV s.heap mv v) (hb : bindT t mv vars = some vars')
    (h : ∀ s', Cur prog w h₀ S env vars' fz μ s' → GrowS env fz μ s μ s' → KeepsT s.heap s'.heap → ((∀ x ∈ tgtNames tg, S.names.lookup x = some .local) → ∀ b o, b ≠ env.locals → s.heap.get? b = some o → s'.heap.get? b = some o) → Q () s') : wpAny (model prog w) A (assign tg env v) Q E s := by
  cases t with
  | tup is => exact (Bool.false_ne_true ht).elim
  | one i =>
    obtain ⟨h1, h2⟩ := and2 ht
    have e : tg = .Name (node tg).s (node tg).p := inv h1
    have e2 : tgtNames tg = [(node tg).s] := if_pos h1
    obtain rfl : setv vars i mv = vars' := Option.some.inj hb
    rw [e]
    exact PySem.wpAny_assign_Name (Zr C h2 hv fun s' C' g' k' l' => h s' C' g' k' fun hx => l' (hx _ (by rw [e2]; exact .head _)))
end
end Mine
end
section
namespace Mine
open PySem PySem.Calls PyProof.Rows PySem.W
noncomputable def closL (env : Env) : List (Str × NameKind) → List (Str × Addr) → List (Str × Addr)
  | [], acc => acc
  | (n, k) :: r, acc => if k == .free then closL env r ((n, (env.cells.lookup n).getD 0) :: acc) else closL env r acc
theorem clos_eq {env : Env} {sc : Scope} (h : ∀ p ∈ sc.names, p.2 = .free → ∃ c, env.cells.lookup p.1 = some c) : closureFor sc env = pure (closL env sc.names []) := by
  simp only [closureFor]
  generalize ([] : List (Str × Addr)) = acc
  revert h acc
  generalize sc.names = names
  intro h acc
  induction names generalizing acc with
  | nil => rfl
  | cons p r ih =>
    obtain ⟨n, k⟩ := p
    simp only [List.forIn_cons, closL]
    by_cases hk : k == .free
    · simp only [hk, if_true]
      obtain ⟨c, hc⟩ := h (n, k) (.head _) (by simpa using hk)
      have : cellOf env n = pure c := by unfold cellOf; simp only at hc; rw [hc]
      rw [this]
      simp only at hc
      rw [hc]
      exact ih (fun q hq => h q (.tail _ hq)) _
    · simp only [hk, Bool.false_eq_true, if_false]
      exact ih (fun q hq => h q (.tail _ hq)) _
theorem Zt {env : Env} {n : Str} {c : Addr} : ∀ {names : List (Str × NameKind)} {acc : List (Str × Addr)}, (n, c) ∈ closL env names acc → (n, c) ∈ acc ∨ ((n, NameKind.free) ∈ names ∧ c = (env.cells.lookup n).getD 0)
  | [], acc => fun h => .inl h
  | (x, k) :: r, acc => fun h => by
    simp only [closL] at h
    split at h
    · rename_i hk
      have hk : k = .free := by simpa using hk
      subst hk
      rcases Zt h with h1 | ⟨h1, h2⟩
      · rcases List.mem_cons.mp h1 with h1 | h1
        · cases h1; exact .inr ⟨.head _, rfl⟩
        · exact .inl h1
      · exact .inr ⟨.tail _ h1, h2⟩
    · rcases Zt h with h1 | ⟨h1, h2⟩
      · exact .inl h1
      · exact .inr ⟨.tail _ h1, h2⟩
theorem N9 {env : Env} {p : Str × Addr} : ∀ {names : List (Str × NameKind)} {acc : List (Str × Addr)}, p ∈ acc → p ∈ closL env names acc
  | [], acc => fun h => h
  | (x, k) :: r, acc => fun h => by
    simp only [closL]
    split
    · exact N9 (.tail _ h)
    · exact N9 h
theorem P3 {env : Env} {n : Str} : ∀ {names : List (Str × NameKind)} {acc : List (Str × Addr)}, (n, NameKind.free) ∈ names → (n, (env.cells.lookup n).getD 0) ∈ closL env names acc
  | (x, k) :: r, acc, h => by
    simp only [closL]
    rcases List.mem_cons.mp h with h1 | h1
    · cases h1
      rw [if_pos (by simp)]
      exact N9 (.head _)
    · split
      · exact P3 h1
      · exact P3 h1
theorem Oa {n : Str} {c : Addr} : ∀ {l : List (Str × Addr)}, (n, c) ∈ l → (∀ c', (n, c') ∈ l → c' = c) → l.lookup n = some c
  | (x, y) :: l, h, ha => by
    rw [List.lookup_cons]
    cases hx : n == x with
    | true => have : n = x := by simpa using hx
              subst this; simp only; rw [ha y (.head _)]
    | false =>
      rcases List.mem_cons.mp h with h1 | h1
      · cases h1; simp at hx
      · exact Oa h1 fun c' hc' => ha c' (.tail _ hc')
theorem Vk {env : Env} {n : Str} {c : Addr} {names : List (Str × NameKind)} (h : (n, NameKind.free) ∈ names) (hc : env.cells.lookup n = some c) : (closL env names []).lookup n = some c := by
  refine Oa (by have := P3 (env := env) (acc := []) h; rw [hc] at this; exact this) fun c' hc' => ?_
  rcases Zt hc' with h1 | ⟨_, h2⟩
  · cases h1
  · rw [h2, hc]; rfl
theorem Ku {env : Env} (ha : env.cells.Pairwise fun x y => x.2 ≠ y.2) : ∀ {names : List (Str × NameKind)} {acc : List (Str × Addr)}, (names.map (·.1)).Nodup → (∀ p ∈ names, p.2 = .free → ∃ c, env.cells.lookup p.1 = some c) →
    acc.Pairwise (fun x y => x.2 ≠ y.2) → (∀ p ∈ acc, env.cells.lookup p.1 = some p.2 ∧ p.1 ∉ names.map (·.1)) → (closL env names acc).Pairwise fun x y => x.2 ≠ y.2
  | [], acc => fun _ _ h _ => h
  | (n, k) :: r, acc => fun hn hf h hacc => by
    simp only [List.map_cons, List.nodup_cons] at hn
    simp only [closL]
    split
    · rename_i hk
      obtain ⟨c, hc⟩ := hf (n, k) (.head _) (by simpa using hk)
      simp only at hc
      refine Ku ha hn.2 (fun p hp => hf p (.tail _ hp)) (List.pairwise_cons.mpr ⟨fun p hp e => ?_, h⟩) fun p hp => ?_
      · have h1 := (hacc p hp).1
        simp only [hc, Option.getD_some] at e
        subst e
        have := Uf ha hc h1
        exact (hacc p hp).2 (by rw [← this]; simp)
      · rcases List.mem_cons.mp hp with rfl | hp
        · exact ⟨by simp [hc], hn.1⟩
        · exact ⟨(hacc p hp).1, fun m => (hacc p hp).2 (by simp at m ⊢; exact .inr m)⟩
    · refine Ku ha hn.2 (fun p hp => hf p (.tail _ hp)) h fun p hp => ⟨(hacc p hp).1, fun m => (hacc p hp).2 (by simp at m ⊢; exact .inr m)⟩
theorem Yy {S : Sc} {x : Str} : ∀ {names : List (Str × NameKind)}, (relab S names).lookup x = (names.lookup x).map fun k => if isFree k && isCell (S.names.lookup x) then .cell else k
  | [] => rfl
  | (n, k) :: r => by
    have ih := Yy (S := S) (x := x) (names := r)
    unfold relab at ih ⊢
    rw [List.map_cons]
    have key : ∀ k', List.lookup x ((n, k') :: List.map (fun p => if (isFree p.snd && isCell (List.lookup p.fst S.names)) = true then (p.fst, NameKind.cell) else p) r) = match x == n with | true => some k' | false => List.lookup x (List.map (fun p => if (isFree p.snd && isCell (List.lookup p.fst S.names)) = true then (p.fst, NameKind.cell) else p) r) := fun k' => by
      rw [List.lookup_cons]; cases x == n <;> rfl
    have hcond : (if (isFree (n, k).snd && isCell (List.lookup (n, k).fst S.names)) = true then ((n, k).fst, NameKind.cell) else (n, k)) = (n, if (isFree k && isCell (List.lookup n S.names)) = true then NameKind.cell else k) := by
      simp only; split <;> rfl
    rw [hcond, key, List.lookup_cons]
    cases hx : x == n with
    | true =>
      have : x = n := by simpa using hx
      subst this; rfl
    | false => exact ih
theorem relab_eq {S : Sc} {env : Env} {sc : Scope} (hn : env.scope.names = S.names) (hk : env.scope.kind = .function) : (relabel sc env).names = relab S sc.names := by
  unfold relabel relab
  refine List.map_congr_left fun p hp => ?_
  obtain ⟨n, k⟩ := p
  have h1 : isFree k = (k == .free) := by cases k <;> rfl
  have h2 : isCell (S.names.lookup n) = (env.kindOf n == some .cell) := by
    unfold Env.kindOf; rw [hn]
    cases S.names.lookup n with
    | none => rfl
    | some k => cases k <;> rfl
  simp only [hk, h1, h2]
  simp
structure InOk (S : Sc) (t : MT) (tg : PySem.Expr) (sc : Scope) : Prop where
  kind : sc.kind = .function
  nodup : (sc.names.map (·.1)).Nodup
  names : ∀ p ∈ sc.names, p.2 = .local ∨ p.2 = .free ∨ p.2 = .globalImplicit
  look : ∀ p ∈ sc.names, sc.names.lookup p.1 = some p.2
  free : ∀ p ∈ sc.names, p.2 = .free → S.names.lookup p.1 = some .cell ∨ S.names.lookup p.1 = some .free
  vnd : t.vars.Nodup
  nnd : (tgtNames tg).Nodup
  len : t.vars.length = (tgtNames tg).length
  loc : ∀ x ∈ tgtNames tg, sc.names.lookup x = some .local
theorem Oc : ∀ {l : List (Str × NameKind)}, (l.map (·.1)).Nodup → ∀ p ∈ l, l.lookup p.1 = some p.2
  | (n, k) :: r, h, p, hp => by
    simp only [List.map_cons, List.nodup_cons] at h
    rcases List.mem_cons.mp hp with rfl | hp'
    · simp [List.lookup_cons]
    · rw [List.lookup_cons]
      have : (p.1 == n) = false := by
        rw [beq_eq_false_iff_ne]; rintro rfl
        exact h.1 (List.mem_map_of_mem (f := (·.1)) hp')
      rw [this]; exact Oc h.2 p hp'
theorem Nb {β : Type} : ∀ {l : List (Nat × β)}, (l.map (·.1)).Nodup → ∀ p ∈ l, l.lookup p.1 = some p.2
  | (n, k) :: r, h, p, hp => by
    simp only [List.map_cons, List.nodup_cons] at h
    rcases List.mem_cons.mp hp with rfl | hp'
    · simp [List.lookup_cons]
    · rw [List.lookup_cons]
      have : (p.1 == n) = false := by
        rw [beq_eq_false_iff_ne]; rintro rfl
        exact h.1 (List.mem_map_of_mem (f := (·.1)) hp')
      rw [this]; exact Nb h.2 p hp'
theorem Kv {β : Type} : ∀ {l : List (Nat × β)} {i : Nat} {x : β}, l.lookup i = some x → (i, x) ∈ l
  | (n, k) :: r, i, x, h => by
    rw [List.lookup_cons] at h
    cases hx : i == n with
    | true => rw [hx] at h; simp at h hx; subst h hx; exact .head _
    | false => rw [hx] at h; exact .tail _ (Kv h)
theorem inj_of {l : List (Nat × Str)} (nv : (l.map (·.2)).Nodup) : ∀ i j x, l.lookup i = some x → l.lookup j = some x → i = j := by
  intro i j x h1 h2
  have m1 := Kv h1
  have m2 := Kv h2
  clear h1 h2
  induction l with
  | nil => cases m1
  | cons p l ih =>
    simp only [List.map_cons, List.nodup_cons] at nv
    rcases List.mem_cons.mp m1 with rfl | m1'
    · rcases List.mem_cons.mp m2 with e | m2'
      · cases e; rfl
      · exact absurd (List.mem_map_of_mem (f := (·.2)) m2') nv.1
    · rcases List.mem_cons.mp m2 with rfl | m2'
      · exact absurd (List.mem_map_of_mem (f := (·.2)) m1') nv.1
      · exact ih nv.2 m1' m2'
theorem tgt_len {S : Sc} {t : MT} {tg : PySem.Expr} (h : isTgt S t tg = true) : t.vars.length = (tgtNames tg).length := by
  cases t with
  | tup _ => exact (Bool.false_ne_true h).elim
  | one i => rw [tgtNames, if_pos (and2 h).1]; rfl
theorem inOk_of {S : Sc} {t : MT} {tg : PySem.Expr} {sc : Scope} (h1 : innerOk S sc = true) (h2 : t.vars.Nodup) (h3 : (tgtNames tg).Nodup) (h4 : t.vars.length = (tgtNames tg).length) (h5 : ∀ x ∈ tgtNames tg, sc.names.lookup x = some .local) : InOk S t tg sc := by
  obtain ⟨h0, h1⟩ := and2 h1
  obtain ⟨hk, hn⟩ := and2 h0
  have key : ∀ p ∈ sc.names, (p.2 = .local ∨ p.2 = .globalImplicit) ∨ (p.2 = .free ∧ (S.names.lookup p.1 = some .cell ∨ S.names.lookup p.1 = some .free)) := fun p hp => by
    simpa only [Bool.or_eq_true, Bool.and_eq_true, decide_eq_true_eq] using List.all_eq_true.mp h1 p hp
  refine ⟨of_decide_eq_true hk, of_decide_eq_true hn, fun p hp => ?_, fun p hp => Oc (of_decide_eq_true hn) p hp, fun p hp hf => ?_, h2, h3, h4, h5⟩
  · rcases key p hp with (q | q) | q
    · exact .inl q
    · exact .inr (.inr q)
    · exact .inr (.inl q.1)
  · rcases key p hp with (q | q) | q
    · rw [hf] at q; cases q
    · rw [hf] at q; cases q
    · exact q.2
noncomputable def without (t : MT) (vars : MVars) : MVars := fun j => if j ∈ t.vars then none else vars j
section
variable {prog : Program} {w : World} {h₀ : Heap} {S : Sc} {env : Env} {vars : MVars} {fz : List Addr} {μ : MH} {s : Shared} {t : MT} {tg : PySem.Expr} {sc : Scope}
theorem inner_nk (I : InOk S t tg sc) (hk : (S.tab.map (·.1)).Nodup) : ((S.inner t tg sc.names).tab.map (·.1)).Nodup := by
  unfold Sc.inner
  rw [List.map_append, List.nodup_append]
  refine ⟨?_, ?_, ?_⟩
  · rw [List.map_fst_zip (by rw [I.len]; exact Nat.le_refl _)]; exact I.vnd
  · exact hk.sublist ((List.filter_sublist ..).map _)
  · intro a ha b hb e
    subst e
    rw [List.map_fst_zip (by rw [I.len]; exact Nat.le_refl _)] at ha
    obtain ⟨p, hp, rfl⟩ := List.mem_map.mp hb
    have := (List.mem_filter.mp hp).2
    simp [ha] at this
theorem inner_nv (I : InOk S t tg sc) (hk : (S.tab.map (·.2)).Nodup) : ((S.inner t tg sc.names).tab.map (·.2)).Nodup := by
  unfold Sc.inner
  rw [List.map_append, List.nodup_append]
  refine ⟨?_, ?_, ?_⟩
  · rw [List.map_snd_zip (by rw [I.len]; exact Nat.le_refl _)]; exact I.nnd
  · exact hk.sublist ((List.filter_sublist ..).map _)
  · intro a ha b hb e
    subst e
    rw [List.map_snd_zip (by rw [I.len]; exact Nat.le_refl _)] at ha
    obtain ⟨p, hp, rfl⟩ := List.mem_map.mp hb
    have := (List.mem_filter.mp hp).2
    rw [I.loc _ ha] at this
    simp [isFreeO] at this
theorem inner_cur {varsX : MVars} (C : Cur prog w h₀ S env vars fz μ s) (I : InOk S t tg sc) {L : Addr} {s' : Shared} {m : Str → Option Value} (hn : s'.heap.Ns L m) (hL : s.heap.get? L = none) (k : ∀ b o, s.heap.get? b = some o → s'.heap.get? b = some o)
    (hag : ∀ j, j ∉ t.vars → varsX j = vars j) (hin : ∀ i x mv, (i, x) ∈ t.vars.zip (tgtNames tg) → varsX i = some mv → ∃ v, RepV s'.heap mv v ∧ m x = some v) :
    Cur prog w h₀ (S.inner t tg sc.names) (compEnvC sc (closL env sc.names []) L env) varsX fz μ s' := by
  have kt := KeepsT.of_all k
  have hcell : ∀ p ∈ sc.names, p.2 = .free → ∃ c, env.cells.lookup p.1 = some c := fun p hp hf => C.fr.cells p.1 (by
    have : env.kindOf p.1 = S.names.lookup p.1 := by unfold Env.kindOf; rw [C.fr.names]
    rw [this]; exact I.free p hp hf)
  have hko : ∀ x, (compEnvC sc (closL env sc.names []) L env).kindOf x = (relab S sc.names).lookup x := fun x => by
    show (relabel sc env).names.lookup x = _
    rw [relab_eq C.fr.names C.fr.kind]
  have frees : ∀ x, isFreeO (sc.names.lookup x) = true → (x, NameKind.free) ∈ sc.names := by
    intro x hx
    exact mem_of_lookup (of_decide_eq_true hx)
  have nk := inner_nk I C.fr.nk
  have nv := inner_nv I C.fr.nv
  refine { base := fun b o e => ⟨k b o (C.base b o e).1, (C.base b o e).2⟩, heap := C.heap.ext k, fzin := C.fzin, newl := ?nl, newc := ?nc, known := C.known, fr := ?fr }
  case nl =>
    cases q : h₀.get? L with
    | none => exact q
    | some o => have := (C.base L o q).1; rw [hL] at this; cases this
  case nc =>
    intro x c hc
    rcases Zt hc with h1 | ⟨h1, h2⟩
    · cases h1
    · obtain ⟨c', hc'⟩ := hcell _ h1 rfl
      simp only at hc'
      rw [hc'] at h2; simp at h2; subst h2
      exact C.newc x c (mem_of_lookup hc')
  case fr =>
    refine { names := ?nm, inj := inj_of nv, nk := nk, nv := nv, kind := I.kind, glob := C.fr.glob, bui := C.fr.bui, ns := ⟨m, hn, ?ns⟩, cells := ?cs, apart := ?ap, fixl := C.heap.free hL, fixc := ?fx }
    case nm => exact relab_eq C.fr.names C.fr.kind
    case ns =>
      intro i x mv hi hkv hv
      have hm := Kv hi
      unfold Sc.inner at hm
      rcases List.mem_append.mp hm with h1 | h1
      · obtain ⟨v, hr, hmx⟩ := hin i x mv h1 hv
        refine ⟨v, hr, ?_⟩
        unfold VarAt
        rw [hko, Yy, I.loc x (List.of_mem_zip h1).2]
        exact hmx
      · obtain ⟨h2, h3⟩ := List.mem_filter.mp h1
        simp only [Bool.and_eq_true, Bool.not_eq_true', List.contains_eq_mem, decide_eq_false_iff_not] at h3
        have hvi : vars i = some mv := (hag i h3.2).symm.trans hv
        have hfr := frees x h3.1
        have hSl : S.tab.lookup i = some x := Nb C.fr.nk _ h2
        have hS := I.free _ hfr rfl
        simp only at hS
        obtain ⟨mm, hmm, hvv⟩ := C.fr.ns
        obtain ⟨v, hr, va⟩ := hvv i x mv hSl (by rcases hS with q | q <;> rw [q] <;> rfl) hvi
        refine ⟨v, hr.keepT kt, ?_⟩
        have hko' : env.kindOf x = S.names.lookup x := by unfold Env.kindOf; rw [C.fr.names]
        have hc : ∃ c, env.cells.lookup x = some c ∧ s.heap.IsCell c (some v) := by
          unfold VarAt at va
          rw [hko'] at va
          rcases hS with q | q <;> rw [q] at va <;> exact va
        obtain ⟨c, h4, h5⟩ := hc
        have h6 : (closL env sc.names []).lookup x = some c := Vk hfr h4
        have h7 : s'.heap.IsCell c (some v) := by obtain ⟨o, ho, hd⟩ := h5; exact ⟨o, k c o ho, hd⟩
        unfold VarAt
        rw [hko, Yy, I.look _ hfr]
        simp only [Option.map_some]
        rcases hS with q | q
        · rw [if_pos (by rw [q]; rfl)]; exact ⟨c, h6, h7⟩
        · rw [if_neg (by rw [q]; simp [isCell])]; exact ⟨c, h6, h7⟩
    case cs =>
      intro x hx
      rw [hko, Yy] at hx
      have : (x, NameKind.free) ∈ sc.names := by
        cases q : sc.names.lookup x with
        | none => rw [q] at hx; simp at hx
        | some kk =>
          rw [q] at hx
          have hmem := mem_of_lookup q
          rcases I.names _ hmem with h1 | h1 | h1 <;> simp only at h1 <;> subst h1
          · simp [isFree] at hx
          · exact hmem
          · simp [isFree] at hx
      obtain ⟨c, hc⟩ := hcell _ this rfl
      exact ⟨c, Vk this hc⟩
    case ap => exact Ku C.fr.apart I.nodup hcell List.Pairwise.nil (by simp)
    case fx =>
      intro x c hc
      rcases Zt hc with h1 | ⟨h1, h2⟩
      · cases h1
      · obtain ⟨c', hc'⟩ := hcell _ h1 rfl
        simp only at hc'
        rw [hc'] at h2; simp at h2; subst h2
        obtain ⟨f1, f2, v, o, ho, hd⟩ := C.fr.fixc x c (mem_of_lookup hc')
        have ne : c ≠ L := fun e => by subst e; rw [hL] at ho; cases ho
        exact ⟨f1, ne, v, o, k c o ho, hd⟩
theorem bind_agree {v : MV} {a b : MVars} {c : MVars} (h1 : isOne t = true) (hb : bindT t v b = some c) (h : ∀ j, j ∉ t.vars → a j = b j) : bindT t v a = some c := by
  cases t with
  | tup _ => exact (Bool.false_ne_true h1).elim
  | one i =>
    rw [← hb]
    refine congrArg some (funext fun j => ?_)
    unfold setv
    split
    · rfl
    · rename_i q; exact h j (fun m => q (List.mem_singleton.mp m))
theorem bind_out {v : MV} {a c : MVars} (h1 : isOne t = true) (hb : bindT t v a = some c) : ∀ j, j ∉ t.vars → c j = a j := by
  intro j hj
  cases t with
  | tup _ => exact (Bool.false_ne_true h1).elim
  | one i =>
    obtain rfl : setv a i v = c := Option.some.inj hb
    exact if_neg fun q => hj (List.mem_singleton.mpr q)
end
end Mine
end
section
namespace Mine
open PySem PySem.Calls PyProof.Rows PySem.W
section
variable {prog : Program} {w : World} {G : String → Option MV} {Γ : String → Option MFun} {h₀ : Heap} {mg mb : Str → Option Value} {Φ : CallSpec} {d : Nat}
theorem Ad {M : Model} {A : Around} {E : Value → Shared → Prop} {s : Shared} {env : Env} {Q : Bool → Shared → Prop} (h : Q false s) : ∀ (xs : List PySem.Expr),
    wpAny M A (forIn xs false fun c r => if r = true then do let ok ← isTrue c env (eval c env); pure (ForInStep.yield ok) else pure (ForInStep.yield r)) Q E s
  | [] => wpAny_pure h
  | x :: xs => by
    simp only [List.forIn_cons, Bool.false_eq_true, if_false]
    exact wpAny_bind (wpAny_pure (Ad h xs))
theorem Pw {S : Sc} {env : Env} {vars : MVars} {fz : List Addr} {A : Around} {E : Value → Shared → Prop} : ∀ {l : List ME} (hl : ∀ e ∈ l, ST prog w G h₀ Φ d e) {xs : List PySem.Expr} {μ : MH} {s : Shared} {F : Bool → MH → Prop}, isEs S l xs = true → OkA d A → Cur prog w h₀ S env vars fz μ s → evIfs G Φ X0 l fz vars F μ →
    wpAny (model prog w) A (forIn xs true fun c r => if r = true then do let ok ← isTrue c env (eval c env); pure (ForInStep.yield ok) else pure (ForInStep.yield r)) (PostB prog w fz μ s F) E s
  | [], _, [], μ, s, F => fun h hA C hq => by
    exact wpAny_pure ⟨μ, hq, C.heap, .refl⟩
  | e :: l, hl, x :: xs, μ, s, F => fun h hA C hq => by
    simp only [isEs, Bool.and_eq_true] at h
    have hq' : ev G Φ X0 e fz vars (fun v μ' => ∃ b, truthy μ' v = some b ∧ if b then evIfs G Φ X0 l fz vars F μ' else F false μ') μ := by
      cases l with
      | nil =>
        have q : (fun (v : MV) (μ' : MH) => ∃ b, truthy μ' v = some b ∧ F b μ') = (fun v μ' => ∃ b, truthy μ' v = some b ∧ if b = true then F true μ' else F false μ') := by
          funext v μ'
          apply propext
          constructor <;> rintro ⟨b, hb, hh⟩ <;> refine ⟨b, hb, ?_⟩ <;> cases b <;> simpa using hh
        have hq : ev G Φ X0 e fz vars (fun v μ' => ∃ b, truthy μ' v = some b ∧ F b μ') μ := hq
        rw [q] at hq; exact hq
      | cons e' l => exact hq
    simp only [List.forIn_cons, if_true]
    refine wpAny_bind (wpAny_bind (wpAny_mono (hl e (.head _) S x env vars fz μ s (fun b μ' => if b then evIfs G Φ X0 l fz vars F μ' else F false μ') A E h.1 hA C hq') (fun b s₁ h₁ => wpAny_pure ?_) fun _ _ e => e))
    obtain ⟨μ₁, hq₁, r₁, g₁⟩ := h₁
    cases b with
    | false => exact Ad (PostB.trans g₁ ⟨μ₁, hq₁, r₁, .refl⟩) xs
    | true => exact wpAny_mono (Pw (fun e' he' => hl e' (.tail _ he')) h.2 hA (C.grow g₁ r₁) hq₁) (fun v' s₃ h₃ => h₃.trans g₁) fun _ _ e => e
  | [], _, _ :: _, _, _, _ => fun h _ _ _ => by simp [isEs] at h
  | _ :: _, _, [], _, _, _ => fun h _ _ _ => by simp [isEs] at h
structure CompEnd (prog : Program) (w : World) (fz : List Addr) (μ : MH) (s : Shared) (Q : MQ) (D L : Addr) (s' : Shared) : Prop where
  out : ∃ μ', Q (.ref D) μ' ∧ RepH prog w μ' s'.heap ∧ Grow fz μ s μ' s' ∧ μ' L = none
  fresh : ∀ o, (μ L = none ∨ L ∈ fz) → s.heap.get? L = some o → False
  ns : ∃ m, s'.heap.Ns L m
structure CompOk (S : Sc) (elt : ME) (t : MT) (k : SK) (its ifs : List ME) (el tg iter : PySem.Expr) (ifs' : List PySem.Expr) (sc : Scope) : Prop where
  src : ∃ as, srcArgs S k iter = some as ∧ isEs S its as = true
  one : isOne t = true
  inn : InOk S t tg sc
  tgt : isTgt (S.inner t tg sc.names) t tg = true
  ifs : isEs (S.inner t tg sc.names) ifs ifs' = true
  elt : isE (S.inner t tg sc.names) elt el = true
theorem Am {S : Sc} {elt : ME} {t : MT} {k : SK} {its ifs : List ME} {x : PySem.Expr} (h : isE S (.comp elt t k its ifs) x = true) : ∃ el tg iter ifs' sc p, x = .ListComp el [⟨tg, iter, ifs', 0⟩] sc p ∧ CompOk S elt t k its ifs el tg iter ifs' sc := by
  obtain ⟨el, tg, iter, ifs', sc, p, e, h1, h2, h3, h4, h5, h6, h7, h8, h9⟩ := inv_comp h
  exact ⟨el, tg, iter, ifs', sc, p, e, h1, h2, inOk_of h3 h4 h5 (tgt_len h6) h7, h6, h8, h9⟩
theorem isTgt_name {S : Sc} {t : MT} {tg : PySem.Expr} (h : isTgt S t tg = true) : ∃ x p, tg = .Name x p := by
  cases t with
  | tup _ => exact (Bool.false_ne_true h).elim
  | one i => exact ⟨_, _, inv (and2 h).1⟩
structure CompInv (prog : Program) (w : World) (h₀ : Heap) (S : Sc) (env : Env) (G : String → Option MV) (Φ : CallSpec) (t : MT) (vars : MVars) (elt : ME) (ifs : List ME) (Q : MQ) (fz held fp wr : List Addr) (D : Addr) (St : Nat → Heap → Prop) (all : List MV) (μ₁ : MH) (sa : Shared)
    (i : Nat) (acc : List MV) (ys : List Value) (varsX : MVars) (μ' : MH) (s' : Shared) : Prop where
  le : i ≤ all.length
  st : St i s'.heap
  pl : s'.heap.PlainList D (List.toArray ys)
  rs : RepVs s'.heap acc ys
  ai : acc.length ≤ i
  cur : Cur prog w h₀ S env varsX (held ++ fz) μ' s'
  ag : ∀ j, j ∉ t.vars → varsX j = vars j
  gr : Grow fz μ₁ sa μ' s'
  dm : μ' D = none
  fp : ∀ b ∈ fp, (μ' b = none ∨ b ∈ held ++ fz) ∧ ∃ o, s'.heap.get? b = some o
  wr : ∀ b ∈ wr, μ' b = none
  run : compM fz t vars (fun vs F μ => evIfs G Φ X0 ifs (held ++ fz) vs F μ) (fun vs F μ => ev G Φ X0 elt (held ++ fz) vs F μ) Q (all.drop i) acc μ'
inductive CompAt (prog : Program) (w : World) (h₀ : Heap) (S : Sc) (env : Env) (G : String → Option MV) (Φ : CallSpec) (t : MT) (vars : MVars) (elt : ME) (ifs : List ME) (Q : MQ) (fz held fp wr : List Addr) (D : Addr) (St : Nat → Heap → Prop) (all : List MV) (μ₁ : MH) (sa : Shared) (n : Nat) (s' : Shared) : Prop
  | mk (i : Nat) (acc : List MV) (ys : List Value) (varsX : MVars) (μ' : MH) (e : n = all.length + 1 - i) (h : CompInv prog w h₀ S env G Φ t vars elt ifs Q fz held fp wr D St all μ₁ sa i acc ys varsX μ' s')
theorem Al (pg : PG prog w G Γ h₀ mg mb) {elt : ME} {t : MT} {k : SK} {its ifs : List ME} (hits : ∀ e ∈ its, SS prog w G h₀ Φ d e) (hifs : ∀ e ∈ ifs, SS prog w G h₀ Φ d e) (helt : SE prog w G h₀ Φ d elt)
    {S : Sc} {el tg iter : PySem.Expr} {ifs' : List PySem.Expr} {sc : Scope} {p : Pos} {env : Env} {vars : MVars} {fz : List Addr} {μ : MH} {s : Shared} {Q : MQ} {A : Around} {E : Value → Shared → Prop}
    (h : CompOk S elt t k its ifs el tg iter ifs' sc) (hA : OkA d A) (C : Cur prog w h₀ S env vars fz μ s) (hq : ev G Φ X0 (.comp elt t k its ifs) fz vars Q μ) {RR : Value → Addr → Result → Shared → Prop}
    (hR : ∀ D L s', CompEnd prog w fz μ s Q D L s' → RR (.ref D) L (.ok .next) s') :
    (∀ x, foldedSetIterable iter env x = pure x) ∧ closureFor sc env = pure (closL env sc.names []) ∧
    wpAny (model prog w) A (eval iter env) (fun x s₁ => wpAny (model prog w) A (pyIter x) (fun it s₂ => wpAny (model prog w) A (newList []) (fun acc s₃ =>
      wpAny (model prog w) A (newFunctionEnv sc env.globals (closL env sc.names []) [] env.qual none .none (some env)) (fun cenv s₄ =>
        codeAny (model prog w) A (.compStart (.ListComp el [⟨tg, iter, ifs', 0⟩] sc p) 0 it acc { cenv with scope := relabel sc env }) (RR acc cenv.locals) s₄) E s₃) E s₂) E s₁) E s := by
  obtain ⟨⟨as, has, hsrc⟩, h1, I, htg, hifs', hel⟩ := h
  have hcell : ∀ p ∈ sc.names, p.2 = .free → ∃ c, env.cells.lookup p.1 = some c := fun p hp hf => C.fr.cells p.1 (by
    have : env.kindOf p.1 = S.names.lookup p.1 := by unfold Env.kindOf; rw [C.fr.names]
    rw [this]; exact I.free p hp hf)
  obtain ⟨hfold, hsource⟩ := Pv (E := E) pg hits has hsrc hA C hq
  refine ⟨hfold, clos_eq hcell, wpAny_mono hsource (fun x s₁ h₁ => wpAny_mono h₁ (fun it s₂ h₂ => ?_) fun _ _ e => e) fun _ _ e => e⟩
  obtain ⟨src, all, μ₁, sa, ⟨hfit, hK⟩, hit, ra, ga, hat⟩ := h₂
  obtain ⟨Ia, fp, wr, St, rfl, W, hst, hfp, hwr, hkeep, hos, hgens⟩ := hat
  have Ca := C.grow ga ra
  have C₂ : Cur prog w h₀ S env vars fz μ₁ s₂ := Ca.ext hkeep
  have hnc : ∀ b ∈ fp, ∀ x c, (x, c) ∈ env.cells → b ≠ c := by
    intro b hb x c hc e
    subst e
    obtain ⟨_, _, v, o, ho, hd⟩ := C₂.fr.fixc x b hc
    obtain ⟨_, o', ho', hd'⟩ := hfp b hb
    rw [ho] at ho'; cases ho'; exact hd'.1 v hd
  have hnocell : ∀ y ∈ sc.names, y.2 ≠ .cell := fun y hy e => by rcases I.names y hy with q | q | q <;> rw [q] at e <;> cases e
  refine wpAny_newObj_type (wpAny_newFunctionEnv hnocell (by intro y hy; simp at hy) (fun h₁ hns₁ hsb₁ => ?_) I.kind)
  dsimp only at hns₁ hsb₁ ⊢
  generalize hH2 : s₂.heap.push { cls := .type "list", dict := none, data := .seq ([] : List Value).toArray } = H2 at hns₁ hsb₁ ⊢
  generalize hDe : s₂.heap.objs.size = D at hns₁ hsb₁ ⊢
  have hC : H2.objs.size = D + 1 := by rw [← hH2, Heap.size_push, hDe]
  generalize hLe : H2.objs.size = L at hC hns₁ hsb₁ ⊢
  have hDC : D ≠ L := by rw [hC]; exact Nat.ne_of_lt (Nat.lt_succ_self _)
  have below : ∀ b o, s₂.heap.get? b = some o → b ≠ L ∧ b ≠ D := fun b o e => by
    have := Heap.lt_size e
    rw [hDe] at this
    exact ⟨by rw [hC]; exact Nat.ne_of_lt (Nat.lt_succ_of_lt this), Nat.ne_of_lt this⟩
  have old : ∀ b o, s₂.heap.get? b = some o → h₁.get? b = some o := fun b o e => hsb₁.extBut b o (below b o e).1 (Heap.get?_push_of_some _ (hH2 ▸ Heap.get?_push_of_some _ e))
  have hD2 : s₂.heap.get? D = none := by rw [← hDe]; exact Z0 _
  have hL2 : s₂.heap.get? L = none := by
    cases e : s₂.heap.get? L with
    | none => rfl
    | some o => exact absurd rfl (below L o e).1
  have hDa : sa.heap.get? D = none := by
    cases e : sa.heap.get? D with
    | none => rfl
    | some o => have := hkeep D o e; rw [hD2] at this; cases this
  have hLa : sa.heap.get? L = none := by
    cases e : sa.heap.get? L with
    | none => rfl
    | some o => have := hkeep L o e; rw [hL2] at this; cases this
  have hacc : h₁.PlainList D #[] := ⟨_, hsb₁.extBut _ _ hDC (Heap.get?_push_of_some _ (hH2 ▸ hDe ▸ Heap.get?_push_size _ rfl))⟩
  have hDm : μ₁ D = none := C₂.heap.free hD2
  have hLm : μ₁ L = none := C₂.heap.free hL2
  have hDfp : D ∉ fp := fun m => by obtain ⟨_, o, ho, _⟩ := hfp D m; rw [hD2] at ho; cases ho
  have hLfp : L ∉ fp := fun m => by obtain ⟨_, o, ho, _⟩ := hfp L m; rw [hL2] at ho; cases ho
  have Cw := C₂.weak (cs := src.held) (Be hit)
  let cenv := compEnvC sc (closL env sc.names []) L env
  have hcenvc : ∀ x c, (x, c) ∈ cenv.cells → (x, c) ∈ env.cells := by
    intro x c hc
    rcases Zt hc with q | ⟨q1, q2⟩
    · cases q
    · obtain ⟨c', hc'⟩ := hcell _ q1 rfl
      simp only at hc'
      rw [hc'] at q2; simp at q2; subst q2
      exact mem_of_lookup hc'
  have hh0 : ∀ b, s₂.heap.get? b = none → h₀.get? b = none := fun b e => by
    cases q : h₀.get? b with
    | none => rfl
    | some o => have := (C₂.base b o q).1; rw [e] at this; cases this
  have hwr0 : ∀ b ∈ wr, h₀.get? b = none := fun b hb => by
    cases q : h₀.get? b with
    | none => rfl
    | some o => have := (Ca.base b o q).1; rw [(hwr b hb).1] at this; cases this
  have hcwr : ∀ x c, (x, c) ∈ cenv.cells → c ∉ wr := fun x c hc hm => hnc c (W.sub c hm) x c (hcenvc x c hc) rfl
  have hD0 : h₀.get? D = none := hh0 D hD2
  have hcD : ∀ x c, (x, c) ∈ cenv.cells → c ∉ [D] := fun x c hc hm => by
    simp at hm; subst hm
    obtain ⟨_, _, v, o, ho, _⟩ := C₂.fr.fixc x c (hcenvc x c hc)
    rw [hD2] at ho; cases ho
  let S' := S.inner t tg sc.names
  have tloc : ∀ x ∈ tgtNames tg, S'.names.lookup x = some .local := fun x hx => by
    show (relab S sc.names).lookup x = _
    rw [Yy, I.loc x hx]; simp [isFree]
  let Inv : Nat → Shared → Prop := CompAt prog w h₀ S' cenv G Φ t vars elt ifs Q fz src.held fp wr D St all μ₁ sa
  have notD : ∀ (hh : Heap) ys o, hh.PlainList D ys → hh.get? D = some o → ¬ ImmCls o := by
    rintro hh ys o ⟨n, hn⟩ ho hi
    rw [hn] at ho; cases ho
    unfold ImmCls at hi; simp at hi
  have loop : ∀ s₄ : Shared, s₄ = { s₂ with heap := h₁, toks := s₂.toks + ([] : List (Str × Value)).length } → codeAny (model prog w) A (.compLoop (.ListComp el [⟨tg, iter, ifs', 0⟩] sc p) 0 (.ref Ia) (.ref D) cenv) (RR (.ref D) L) s₄ := by
    rintro s₄ rfl
    refine codeAny_compLoop_tests Inv ?_ (all.length + 1) ?_ ?_
    · rintro n s' ⟨i, acc, ys, varsX, μ', rfl, hi, hst', hpl, hrs, hai, C', hag, g', hDm', hfp', hwr', hM⟩
      have hfz' : ∀ {b : Addr}, μ' b = none → b ∉ src.held ++ fz := fun e => C'.fzin.free e
      by_cases hlt : i < all.length
      · have hm : all[i]? = some all[i] := List.getElem?_eq_getElem hlt
        rw [List.drop_eq_getElem_cons hlt] at hM
        obtain ⟨vars', hb, hM⟩ := hM
        refine W.item i all[i] s' _ _ hm hst' fun v h' tk rv st' kt hk => ?_
        have C1 : Cur prog w h₀ S' cenv varsX (src.held ++ fz) μ' { s' with heap := h', toks := tk } := C'.skip kt hk hwr' hwr0 (fun m => hLfp (W.sub _ m)) hcwr
        have g1 : Grow fz μ₁ sa μ' { s' with heap := h', toks := tk } := g'.skip hk (fun b hb => (hwr b hb).1) rfl rfl
        refine Pt hA.hand C1 htg rv (bind_agree h1 hb hag) fun s₅ C2 gs2 kt2 kl2 => ?_
        have kl : ∀ b o, b ≠ L → h'.get? b = some o → s₅.heap.get? b = some o := kl2 tloc
        have g2 : Grow fz μ₁ sa μ' s₅ := g1.skip (wr := [L]) (fun b o hb e => kl b o (by simpa using hb) e) (by simp [hLa]) gs2.os gs2.gens
        have hDw : D ∉ wr := fun m => hDfp (W.sub _ m)
        have keepD : ∀ o, s'.heap.get? D = some o → s₅.heap.get? D = some o := fun o e => kl D o hDC (hk D o hDw e)
        have hst5 : St (i + 1) s₅.heap := W.frame _ _ _ st' kt2 fun b hb o e => kl b o (fun q => hLfp (q ▸ hb)) e
        have hpl5 : s₅.heap.PlainList D ys.toArray := by obtain ⟨n, hn⟩ := hpl; exact ⟨n, keepD _ hn⟩
        have hrs5 : RepVs s₅.heap acc ys := (hrs.keepT kt).keepT kt2
        have hfp5 : ∀ b ∈ fp, (μ' b = none ∨ b ∈ src.held ++ fz) ∧ ∃ o, s₅.heap.get? b = some o := by
          intro b hb
          refine ⟨(hfp' b hb).1, ?_⟩
          have hbL : b ≠ L := fun q => hLfp (q ▸ hb)
          by_cases hw : b ∈ wr
          · obtain ⟨o, ho⟩ := W.alive _ _ st' b hw
            exact ⟨o, kl b o hbL ho⟩
          · obtain ⟨o, ho⟩ := (hfp' b hb).2
            exact ⟨o, kl b o hbL (hk b o hw ho)⟩
        refine wpAny_mono (Pw (fun e he => (hifs e he).2) hifs' hA C2 hM) (fun ok s₆ h₆ => ?_) fun _ _ e => e
        obtain ⟨μ₆, hq₆, r₆, g₆⟩ := h₆
        have C6 := C2.grow g₆ r₆
        have kD6 : ∀ o, s₅.heap.get? D = some o → s₆.heap.get? D = some o ∧ μ₆ D = none := fun o e => (g₆.keep D o (.inl hDm') e).imp id fun q => q.trans hDm'
        have kfp6 : ∀ b ∈ fp, ∀ o, s₅.heap.get? b = some o → s₆.heap.get? b = some o := fun b hb o e => (g₆.keep b o (hfp5 b hb).1 e).1
        have hst6 : St (i + 1) s₆.heap := W.frame _ _ _ hst5 (g₆.keepT C2.heap) kfp6
        have hfp6 : ∀ b ∈ fp, (μ₆ b = none ∨ b ∈ src.held ++ fz) ∧ ∃ o, s₆.heap.get? b = some o := fun b hb => by
          obtain ⟨q, o, ho⟩ := hfp5 b hb
          obtain ⟨e1, e2⟩ := g₆.keep b o q ho
          exact ⟨q.imp (fun z => e2.trans z) id, o, e1⟩
        have hwr6 : ∀ b ∈ wr, μ₆ b = none := fun b hb => by
          obtain ⟨q, o, ho⟩ := hfp5 b (W.sub b hb)
          exact (g₆.keep b o q ho).2.trans (hwr' b hb)
        obtain ⟨nD, hnD⟩ := id hpl5
        have hpl6 : s₆.heap.PlainList D ys.toArray := ⟨nD, (kD6 _ hnD).1⟩
        have hrs6 : RepVs s₆.heap acc ys := hrs5.keepT (g₆.keepT C2.heap)
        have hag' : ∀ j, j ∉ t.vars → vars' j = vars j := bind_out h1 hb
        have g6 : Grow fz μ₁ sa μ₆ s₆ := g2.trans g₆.weak
        cases ok with
        | false =>
          exact ⟨all.length + 1 - (i + 1), by lia, i + 1, acc, ys, vars', μ₆, rfl, hlt, hst6, hpl6, hrs6, by exact Nat.le_succ_of_le (by assumption), C6, hag', g6, (kD6 _ hnD).2, hfp6, hwr6, hq₆⟩
        | true =>
          refine wpAny_mono (helt S' el cenv vars' _ μ₆ s₆ _ A _ hel hA C6 hq₆) (fun r s₇ h₇ => ?_) fun _ _ e => e
          obtain ⟨mr, μ₇, hq₇, rr, r₇, g₇⟩ := h₇
          have C7 := C6.grow g₇ r₇
          have kD7 := g₇.keep D _ (.inl (kD6 _ hnD).2) (kD6 _ hnD).1
          have hD7 : μ₇ D = none := kD7.2.trans (kD6 _ hnD).2
          have hst7 : St (i + 1) s₇.heap := W.frame _ _ _ hst6 (g₇.keepT r₆) fun b hb o e => (g₇.keep b o (hfp6 b hb).1 e).1
          have hpl7 : s₇.heap.PlainList D ys.toArray := ⟨nD, kD7.1⟩
          have hlen : ys.length = acc.length := hrs.length
          refine wpAny_list_append_plain hpl7 (fun h' hpl8 hs8 => ?_) (by
            have : all.length ≤ sizeLine := Xq hfit
            simp only [List.size_toArray]; lia)
          have kall : ∀ b o, b ∉ [D] → s₇.heap.get? b = some o → h'.get? b = some o := fun b o hb e => hs8.extBut b o (by simpa using hb) e
          have kt8 : KeepsT s₇.heap h' := fun b o e hi => kall b o (fun q => by simp at q; subst q; exact notD _ _ o hpl7 e hi) e
          refine ⟨all.length + 1 - (i + 1), by lia, i + 1, acc ++ [mr], ys ++ [r], vars', μ₇, rfl, hlt, ?_, ?_, ?_, by simp; assumption, ?_, hag', ?_, hD7, ?_, ?_, hq₇⟩
          · exact W.frame _ _ _ hst7 kt8 fun b hb o e => kall b o (fun q => by simp at q; subst q; exact hDfp hb) e
          · simpa using hpl8
          · exact ((hrs6.keepT (g₇.keepT r₆)).keepT kt8).append (by simp only [RepVs, and_true]; exact rr.keepT kt8)
          · exact C7.skip (s' := { s₇ with heap := h' }) kt8 kall (by simp [hD7]) (by simp [hD0]) (fun q => by simp at q; exact hDC q.symm) hcD
          · exact (g6.trans g₇.weak).skip (wr := [D]) (s'' := { s₇ with heap := h' }) kall (by simp [hDa]) rfl rfl
          · intro b hb
            obtain ⟨q, o, ho⟩ := hfp6 b hb
            obtain ⟨e1, e2⟩ := g₇.keep b o q ho
            exact ⟨q.imp (fun z => e2.trans z) id, o, kall b o (fun q => by simp at q; subst q; exact hDfp hb) e1⟩
          · intro b hb
            obtain ⟨q, o, ho⟩ := hfp6 b (W.sub b hb)
            exact (g₇.keep b o q ho).2.trans (hwr6 b hb)
      · have hie : i = all.length := by lia
        subst hie
        rw [List.drop_length] at hM
        refine W.done s' _ _ hst' fun h' tk kt hk => ?_
        have hDw : D ∉ wr := fun m => hDfp (W.sub _ m)
        refine hR D L _ ⟨⟨upd μ' D (.list acc), ?_, ?_, ?_, ?_⟩, ?_, ?_⟩
        · exact hM D hDm' (fun m => hfz' hDm' (List.mem_append_right _ m))
        · have C1 : Cur prog w h₀ S' cenv varsX (src.held ++ fz) μ' { s' with heap := h', toks := tk } := C'.skip kt hk hwr' hwr0 (fun m => hLfp (W.sub _ m)) hcwr
          refine C1.heap.alloc (fun b o e => e) ⟨ys, ?_, hrs.keepT kt⟩
          obtain ⟨n, hn⟩ := hpl; exact ⟨n, hk D _ hDw hn⟩
        · refine ga.trans ⟨fun b o f e => ?_, g'.os, g'.gens⟩
          obtain ⟨e1, e2⟩ := g'.keep b o f e
          have hbD : b ≠ D := fun q => by subst q; rw [hDa] at e; cases e
          exact ⟨hk b o (fun m => by rw [(hwr b m).1] at e; cases e) e1, by unfold upd; rw [if_neg hbD]; exact e2⟩
        · unfold upd; rw [if_neg (Ne.symm hDC)]; exact C'.fr.fixl
        · intro o f e
          have := (ga.keep L o f e).1
          rw [hLa] at this; cases this
        · obtain ⟨m, hm, _⟩ := C'.fr.ns
          exact ⟨m, hm.at' fun o e => hk _ o (fun m => hLfp (W.sub _ m)) e⟩
    · have k₁ : ∀ b o, s₂.heap.get? b = some o → h₁.get? b = some o := old
      refine ⟨0, [], [], without t vars, μ₁, rfl, Nat.zero_le _, W.frame _ _ _ hst (.of_all k₁) (fun b _ o e => k₁ b o e), hacc, trivial, Nat.le_refl _, ?_, ?_, ?_, hDm, ?_, fun b hb => (hwr b hb).2, ?_⟩
      · exact inner_cur (s' := { s₂ with heap := h₁, toks := _ }) Cw I hns₁ hL2 k₁ (fun j hj => if_neg hj) fun i x mv hi hv => by
          rw [show without t vars i = none from if_pos (List.of_mem_zip hi).1] at hv; cases hv
      · intro j hj; simp [without, hj]
      · exact ⟨fun b o _ e => ⟨k₁ b o (hkeep b o e), rfl⟩, hos, hgens⟩
      · intro b hb
        obtain ⟨q, o, ho, _⟩ := hfp b hb
        exact ⟨q.imp id fun m => List.mem_append_left _ m, o, k₁ b o ho⟩
      · rw [List.drop_zero]; exact hK
    · obtain ⟨x, px, rfl⟩ := isTgt_name htg
      intro v; rfl
  exact codeAny_compStart_list (loop _ rfl) (W.self 0 _ _ _ (W.frame _ _ _ hst (.of_all old) (fun b _ o e => old b o e)) (loop _ rfl))
theorem SameBut.keep {L : Addr} {h h' : Heap} (hs : Heap.SameBut L h h') : ∀ b o, b ∉ [L] → h.get? b = some o → h'.get? b = some o := fun b o hb e => hs.extBut b o (by simpa using hb) e
theorem Vq {h : Heap} {L : Addr} {m : Str → Option Value} (hn : h.Ns L m) : ∀ o, h.get? L = some o → ¬ ImmCls o := by
  obtain ⟨o, es, ep, ho, hd, _⟩ := hn
  rintro o' ho' (⟨_, _, _, q⟩ | ⟨_, _, q⟩ | ⟨_, _, q⟩) <;> rw [ho] at ho' <;> cases ho' <;> rw [hd] at q <;> cases q
theorem end_post {fz : List Addr} {μ : MH} {s s' : Shared} {Q : MQ} {A : Around} {E : Value → Shared → Prop} {D L : Addr} (e : CompEnd prog w fz μ s Q D L s') : compPost (model prog w) A E none (PostV prog w fz μ s Q) (.ref D) L (.ok .next) s' := by
  obtain ⟨⟨μ', hq', r', g', hL⟩, hf, m, hn⟩ := e
  refine ⟨m, hn, fun h'' hs'' => ⟨.ref D, μ', hq', rfl, ?_, ?_⟩⟩
  · have kt : KeepsT s'.heap h'' := fun b o e hi => SameBut.keep hs'' b o (fun q => by simp at q; subst q; exact Vq hn o e hi) e
    exact fun a o e => (r' a o e).keeps kt fun y hy => SameBut.keep hs'' a y (fun q => by simp at q; subst q; rw [hL] at e; cases e) hy
  · exact ⟨fun b o f e => by
      obtain ⟨e1, e2⟩ := g'.keep b o f e
      exact ⟨SameBut.keep hs'' b o (fun q => by simp at q; subst q; exact hf o f e) e1, e2⟩, g'.os, g'.gens⟩
theorem se_comp (pg : PG prog w G Γ h₀ mg mb) {elt : ME} {t : MT} {k : SK} {its ifs : List ME} (hits : ∀ e ∈ its, SS prog w G h₀ Φ d e) (hifs : ∀ e ∈ ifs, SS prog w G h₀ Φ d e) (helt : SE prog w G h₀ Φ d elt) : SE prog w G h₀ Φ d (.comp elt t k its ifs) := fun S x env vars fz μ s Q A E h hA C hq => by
  obtain ⟨el, tg, iter, ifs', sc, p, rfl, hok⟩ := Am h
  obtain ⟨hs, hclos, hw⟩ := Al (E := E) (RR := fun acc L => compPost (model prog w) A E none (PostV prog w fz μ s Q) acc L) pg hits hifs helt hok hA C hq (fun _ _ _ e => end_post e)
  rw [eval_ListComp]
  exact wpAny_comprehension_free (use := none) rfl hs hclos hok.inn.kind (fun x hx hl => by rw [hok.inn.look x hx, hl]) hw
noncomputable def ME.tag : ME → Tg
  | .var _ | .glob _ => .name
  | .cint _ => .cint
  | .cstr _ => .cstr
  | .cbool _ => .cbool
  | .cnone => .cnone
  | .bin _ _ _ => .bin
  | .neg _ => .neg
  | .not _ => .not
  | .and _ => .and
  | .or _ => .or
  | .cmp _ _ _ => .cmp
  | .ite _ _ _ => .ife
  | .idx _ _ => .sub
  | .slice _ _ _ _ => .slc
  | .list _ => .list
  | .tuple _ => .tup
  | .dict0 _ => .dict0
  | .dict _ _ => .other
  | .call _ _ | .bi _ _ | .isinst _ _ => .callN
  | .meth _ _ _ => .callA
  | .comp _ _ _ _ _ => .lc
theorem Bb {S : Sc} {e : ME} {x : PySem.Expr} (h : isE S e x = true) : (node x).t = e.tag := by
  cases e with
  | cnone => exact of_decide_eq_true h
  | dict0 _ => exact of_decide_eq_true h
  | dict _ _ => exact (Bool.false_ne_true h).elim
  | ite _ _ _ => exact (Bool.false_ne_true h).elim
  | call _ _ => exact of_decide_eq_true (and2 (and2 (and2 h).1).1).1
  | isinst _ _ => exact of_decide_eq_true (and2 (and2 (and2 h).1).1).1
  | bi f _ => cases f <;> first | exact of_decide_eq_true (and2 (and2 (and2 h).1).1).1 | exact of_decide_eq_true (and2 h).1 | exact (Bool.false_ne_true h).elim
  | _ => exact of_decide_eq_true (and2 h).1
noncomputable def Tg.plain : Tg → Bool
  | .not | .and | .or | .cmp | .ife | .other => false
  | _ => true
theorem isTrue_tag {x : PySem.Expr} {env : Env} (h : (node x).t.plain = true) : ∀ whole, isTrue x env whole = (do let v ← whole; standAt x.pos; holding [v] (PySem.truthy v)) := by
  intro whole
  cases x <;> first
    | rfl
    | exact (Bool.false_ne_true h).elim
    | (rename_i op _ _; cases op <;> first | rfl | exact (Bool.false_ne_true h).elim)
theorem SS.of_plain {e : ME} (he : e.tag.plain = true) (h : SE prog w G h₀ Φ d e) : SS prog w G h₀ Φ d e :=
  ⟨h, fun S x env vars fz μ s F A E hx hA C hq => truthyT h (isTrue_tag (by rw [Bb hx]; exact he)) hx hA C hq⟩
end
end Mine
end
section
namespace Mine
open PySem PySem.Calls PyProof.Rows PySem.W
section
variable {prog : Program} {w : World} {G : String → Option MV} {Γ : String → Option MFun} {h₀ : Heap} {mg mb : Str → Option Value} {Φ : CallSpec} {d : Nat}
mutual
theorem Y5 (pg : PG prog w G Γ h₀ mg mb) (hc : SC prog w h₀ Φ d) : ∀ e : ME, SS prog w G h₀ Φ d e
  | .var i => .of_plain rfl (se_var i)
  | .glob g => .of_plain rfl (se_glob pg g)
  | .cint i => .of_plain rfl (se_cint i)
  | .cstr t => .of_plain rfl (se_cstr t)
  | .cbool b => .of_plain rfl (se_cbool b)
  | .cnone => .of_plain rfl se_cnone
  | .bin op a b => .of_plain rfl (se_bin (Y5 pg hc a).1 (Y5 pg hc b).1)
  | .neg a => .of_plain rfl (se_neg (Y5 pg hc a).1)
  | .not a => ⟨se_not (Y5 pg hc a).1, st_not (Y5 pg hc a).2⟩
  | .and l => ⟨se_and fun e he => (Y1 pg hc l e he).1, st_and fun e he => (Y1 pg hc l e he).2⟩
  | .or l => ⟨se_or fun e he => (Y1 pg hc l e he).1, st_or fun e he => (Y1 pg hc l e he).2⟩
  | .cmp a ops es => ⟨se_cmp (Y5 pg hc a).1 fun e he => (Y1 pg hc es e he).1, st_cmp (Y5 pg hc a).1 fun e he => (Y1 pg hc es e he).1⟩
  | .ite _ _ _ => ⟨fun S x env vars fz μ s Q A E h hA C hq => (Bool.false_ne_true h).elim, fun S x env vars fz μ s Q A E h hA C hq => (Bool.false_ne_true h).elim⟩
  | .idx a i => .of_plain rfl (se_idx (Y5 pg hc a).1 (Y5 pg hc i).1)
  | .slice a lo hi st => .of_plain rfl (se_slice (Y5 pg hc a).1 (Y5 pg hc lo).1 (Y5 pg hc hi).1 (Y5 pg hc st).1)
  | .list l => .of_plain rfl (se_list (Y1 pg hc l))
  | .tuple l => .of_plain rfl (se_tuple (Y1 pg hc l))
  | .dict0 b => .of_plain rfl (se_dict0 pg b)
  | .dict _ _ => ⟨fun S x env vars fz μ s Q A E h hA C hq => (Bool.false_ne_true h).elim, fun S x env vars fz μ s Q A E h hA C hq => (Bool.false_ne_true h).elim⟩
  | .call f l => .of_plain rfl (se_call hc (Y1 pg hc l))
  | .bi .sortedR l => .of_plain rfl (se_sortedR pg (Y1 pg hc l))
  | .bi .maxD l => .of_plain rfl (se_maxD pg (Y1 pg hc l))
  | .bi .sortedSet l => .of_plain rfl fun S x env vars fz μ s Q A E h hA C hq => (Bool.false_ne_true h).elim
  | .bi .len l => .of_plain rfl (U5 pg (Y1 pg hc l) rfl)
  | .bi .min2 l => .of_plain rfl (U5 pg (Y1 pg hc l) rfl)
  | .bi .max2 l => .of_plain rfl (U5 pg (Y1 pg hc l) rfl)
  | .bi .max1 l => .of_plain rfl (U5 pg (Y1 pg hc l) rfl)
  | .bi .sorted l => .of_plain rfl (U5 pg (Y1 pg hc l) rfl)
  | .bi .list l => .of_plain rfl (U5 pg (Y1 pg hc l) rfl)
  | .bi .dict l => .of_plain rfl (U5 pg (Y1 pg hc l) rfl)
  | .bi .int l => .of_plain rfl (U5 pg (Y1 pg hc l) rfl)
  | .bi .str l => .of_plain rfl (U5 pg (Y1 pg hc l) rfl)
  | .bi .all l => .of_plain rfl (U5 pg (Y1 pg hc l) rfl)
  | .isinst a t => .of_plain rfl (se_isinst pg (Y5 pg hc a))
  | .meth m o l => .of_plain rfl (se_meth (Y5 pg hc o).1 (Y1 pg hc l))
  | .comp elt t k its ifs => .of_plain rfl (se_comp pg (Y1 pg hc its) (Y1 pg hc ifs) (Y5 pg hc elt).1)
theorem Y1 (pg : PG prog w G Γ h₀ mg mb) (hc : SC prog w h₀ Φ d) : ∀ l : List ME, ∀ e ∈ l, SS prog w G h₀ Φ d e
  | [] => fun e h => by cases h
  | a :: l => fun e h => (List.mem_cons.mp h).elim (fun q => q ▸ Y5 pg hc a) (fun q => Y1 pg hc l e q)
end
end
end Mine
end
section
namespace Mine
open PySem PySem.Calls PyProof.Rows PySem.W
noncomputable def RepFl (h : Heap) : MFlow → Flow → Prop
  | .next, f => f = .next
  | .brk, f => f = .brk
  | .cont, f => f = .cont
  | .ret m, f => ∃ v, f = .ret v ∧ RepV h m v
inductive PostF (prog : Program) (w : World) (h₀ : Heap) (S : Sc) (env : Env) (fz : List Addr) (μ : MH) (s : Shared) (R : MFlow → MVars → MH → Prop) (f : Flow) (s' : Shared) : Prop
  | mk (fl : MFlow) (vars' : MVars) (μ' : MH) (q : R fl vars' μ') (hf : RepFl s'.heap fl f) (cur : Cur prog w h₀ S env vars' fz μ' s') (g : GrowS env fz μ s μ' s')
section
variable (prog : Program) (w : World) (G : String → Option MV) (h₀ : Heap) (Φ : CallSpec) (d : Nat)
noncomputable def SX (st : MS) : Prop := ∀ (S : Sc) (x : PySem.Stmt) (env : Env) (vars : MVars) (fz : List Addr) (μ : MH) (s : Shared) (R : MFlow → MVars → MH → Prop) (A : Around) (E : Value → Shared → Prop), isS S st x = true → OkA d A → Cur prog w h₀ S env vars fz μ s →
  ex G Φ X0 st fz vars R μ → wpAny (model prog w) A (exec x env) (PostF prog w h₀ S env fz μ s R) E s
noncomputable def SXs (l : List MS) : Prop := ∀ (S : Sc) (xs : List PySem.Stmt) (env : Env) (vars : MVars) (fz : List Addr) (μ : MH) (s : Shared) (R : MFlow → MVars → MH → Prop) (A : Around) (E : Value → Shared → Prop), isSs S l xs = true → OkA d A → Cur prog w h₀ S env vars fz μ s →
  exs G Φ X0 l fz vars R μ → wpAny (model prog w) A (execs xs env) (PostF prog w h₀ S env fz μ s R) E s
end
section
variable {prog : Program} {w : World} {G : String → Option MV} {Γ : String → Option MFun} {h₀ : Heap} {mg mb : Str → Option Value} {Φ : CallSpec} {d : Nat}
theorem PostF.trans {S : Sc} {env : Env} {fz : List Addr} {μ μ₁ : MH} {s s₁ : Shared} {R : MFlow → MVars → MH → Prop} {f : Flow} {s' : Shared} (g : GrowS env fz μ s μ₁ s₁) (x : PostF prog w h₀ S env fz μ₁ s₁ R f s') : PostF prog w h₀ S env fz μ s R f s' := by
  obtain ⟨fl, vars', μ', h1, h2, h3, h4⟩ := x
  exact ⟨fl, vars', μ', h1, h2, h3, g.trans h4⟩
theorem sx_nil : SXs prog w G h₀ Φ d [] := fun S xs env vars fz μ s R A E h hA C hq => by
  cases xs with
  | cons _ _ => exact (Bool.false_ne_true h).elim
  | nil => exact wpAny_execs_nil ⟨.next, vars, μ, hq, rfl, C, .refl⟩
theorem sx_cons {st : MS} {l : List MS} (h1 : SX prog w G h₀ Φ d st) (h2 : SXs prog w G h₀ Φ d l) : SXs prog w G h₀ Φ d (st :: l) := fun S xs env vars fz μ s R A E h hA C hq => by
  cases xs with
  | nil => exact (Bool.false_ne_true h).elim
  | cons x xs =>
    replace h := Xy h
    refine wpAny_execs_cons (wpAny_mono (h1 S x env vars fz μ s _ A E h.1 hA C hq) (fun f s₁ h₁ => ?_) fun _ _ e => e)
    obtain ⟨fl, vars₁, μ₁, hq₁, hf, C₁, g₁⟩ := h₁
    cases fl with
    | next =>
      obtain rfl := hf
      exact wpAny_mono (h2 S xs env vars₁ fz μ₁ s₁ R A E h.2 hA C₁ hq₁) (fun f' s₂ h₂ => h₂.trans g₁) fun _ _ e => e
    | brk => obtain rfl := hf; exact ⟨.brk, vars₁, μ₁, hq₁, rfl, C₁, g₁⟩
    | cont => obtain rfl := hf; exact ⟨.cont, vars₁, μ₁, hq₁, rfl, C₁, g₁⟩
    | ret m => obtain ⟨v, rfl, rv⟩ := hf; exact ⟨.ret m, vars₁, μ₁, hq₁, ⟨v, rfl, rv⟩, C₁, g₁⟩
theorem sx_pass : SX prog w G h₀ Φ d .pass := fun S x env vars fz μ s R A E h hA C hq => by
  replace h := invS_pass h; obtain ⟨p, rfl⟩ := h
  exact wpAny_Pass ⟨.next, vars, μ, hq, rfl, C, .refl⟩
theorem sx_ret0 : SX prog w G h₀ Φ d .ret0 := fun S x env vars fz μ s R A E h hA C hq => by
  replace h := invS_ret0 h; obtain ⟨p, rfl⟩ := h
  exact wpAny_Return_none ⟨.ret .none, vars, μ, hq, ⟨.none, rfl, rfl⟩, C, .refl⟩
theorem sx_ret {a : ME} (ha : SE prog w G h₀ Φ d a) : SX prog w G h₀ Φ d (.ret a) := fun S x env vars fz μ s R A E h hA C hq => by
  replace h := Oh h; obtain ⟨v, p, rfl, h⟩ := h
  refine wpAny_Return_some (wpAny_mono (ha S _ env vars fz μ s _ A E h hA C hq) (fun v s₁ h₁ => ?_) fun _ _ e => e)
  obtain ⟨mv, μ₁, hq₁, rv, r₁, g₁⟩ := h₁
  exact ⟨.ret mv, vars, μ₁, hq₁, ⟨v, rfl, rv⟩, C.grow g₁ r₁, g₁.toS⟩
theorem Ua {v : PySem.Expr} (h : notComp v = true) (line : Nat) (env : Env) : swapsWith v none line env = pure false := by
  have h' := and2 h
  cases v <;> first
    | rfl
    | exact (Bool.false_ne_true h'.2).elim
    | (rename_i el gs sc p
       cases gs with
       | nil => exact (Bool.false_ne_true h'.2).elim
       | cons g gs =>
         obtain ⟨tg, it, ifs, n⟩ := g
         cases n with
         | ofNat m => cases m <;> cases gs <;> first | exact (Bool.false_ne_true h'.2).elim | exact (Bool.false_ne_true h'.1).elim
         | negSucc m => cases gs <;> exact (Bool.false_ne_true h'.2).elim)
theorem sx_expr {a : ME} (ha : SE prog w G h₀ Φ d a) : SX prog w G h₀ Φ d (.expr a) := fun S x env vars fz μ s R A E h hA C hq => by
  replace h := Vs h; obtain ⟨v, p, rfl, hn, h⟩ := h
  refine wpAny_Expr_any (wpAny_mono (ha S _ env vars fz μ s _ A E h hA C hq) (fun v s₁ h₁ => ?_) fun _ _ e => e) (by unfold interactive; rw [C.fr.kind]; rfl) (Ua hn _ _)
  obtain ⟨mv, μ₁, hq₁, rv, r₁, g₁⟩ := h₁
  exact ⟨.next, vars, μ₁, hq₁, rfl, C.grow g₁ r₁, g₁.toS⟩
theorem sx_ite {c : ME} {a b : List MS} (hc : ST prog w G h₀ Φ d c) (ha : SXs prog w G h₀ Φ d a) (hb : SXs prog w G h₀ Φ d b) : SX prog w G h₀ Φ d (.ite c a b) := fun S x env vars fz μ s R A E h hA C hq => by
  replace h := Ki h; obtain ⟨tt, y, z, p, rfl, h⟩ := h
  simp only [Bool.and_eq_true] at h
  refine wpAny_If (wpAny_mono (hc S _ env vars fz μ s (fun b' μ' => if b' then exs G Φ X0 a fz vars R μ' else exs G Φ X0 b fz vars R μ') A E h.1.1 hA C hq) (fun v s₁ h₁ => ?_) fun _ _ e => e)
  obtain ⟨μ₁, hq₁, r₁, g₁⟩ := h₁
  cases v with
  | true => exact wpAny_mono (ha S _ env vars fz μ₁ s₁ R A E h.1.2 hA (C.grow g₁ r₁) hq₁) (fun v' s₃ h₃ => h₃.trans g₁.toS) fun _ _ e => e
  | false => exact wpAny_mono (hb S _ env vars fz μ₁ s₁ R A E h.2 hA (C.grow g₁ r₁) hq₁) (fun v' s₃ h₃ => h₃.trans g₁.toS) fun _ _ e => e
theorem sx_setidx {o i a : ME} (ho : SE prog w G h₀ Φ d o) (hi : SE prog w G h₀ Φ d i) (ha : SE prog w G h₀ Φ d a) : SX prog w G h₀ Φ d (.setidx o i a) := fun S x env vars fz μ s R A E h hA C hq => by
  replace h := invS_setidx h; obtain ⟨ov, iv, sp, v, p, rfl, h⟩ := h
  simp only [Bool.and_eq_true] at h
  refine wpAny_Assign_Subscript (wpAny_mono (ha S _ env vars fz μ s _ A E h.2 hA C hq) (fun v s₁ h₁ => ?_) fun _ _ e => e) ?_
  · obtain ⟨mv, μ₁, hq₁, rv, r₁, g₁⟩ := h₁
    have C₁ := C.grow g₁ r₁
    refine wpAny_mono (ho S _ env vars fz μ₁ s₁ _ A E h.1.1 hA C₁ hq₁) (fun u s₂ h₂ => ?_) fun _ _ e => e
    obtain ⟨mu, μ₂, hq₂, ru, r₂, g₂⟩ := h₂
    have C₂ := C₁.grow g₂ r₂
    refine wpAny_mono (hi S _ env vars fz μ₂ s₂ _ A E h.1.2 hA C₂ hq₂) (fun y s₃ h₃ => ?_) fun _ _ e => e
    obtain ⟨my, μ₃, hq₃, ry, r₃, g₃⟩ := h₃
    have C₃ := C₂.grow g₃ r₃
    refine wpAny_mono (op_set hA (ru.keepT (g₃.keepT r₂)) ry ((rv.keepT (g₂.keepT r₁)).keepT (g₃.keepT r₂)) r₃ hq₃) (fun _ s₄ h₄ => ?_) fun _ _ e => e
    obtain ⟨μ₄, hq₄, r₄, g₄⟩ := h₄
    exact ⟨.next, vars, μ₄, hq₄, rfl, C₃.grow g₄ r₄, (((g₁.trans g₂).trans g₃).trans g₄).toS⟩
  · cases v <;> rfl
theorem lc_of {a : ME} (h : a.tag = .lc) : ∃ elt t k its ifs, a = .comp elt t k its ifs := by
  cases a <;> first | (cases h; done) | exact ⟨_, _, _, _, _, rfl⟩
theorem tag_other {S : Sc} {a : ME} {x : PySem.Expr} (h : isE S a x = true) : a.tag ≠ .other := by
  cases a <;> first | exact (Bool.false_ne_true h).elim | (intro q; cases q; done)
theorem swaps_name {v : PySem.Expr} (h1 : (node v).t ≠ .lc) (h2 : (node v).t ≠ .other) (t : PySem.Expr) (line : Nat) (env : Env) : swapsWith v (some t) line env = pure false := by
  cases v <;> first
    | rfl
    | exact absurd rfl h2
    | (rename_i el gs sc p
       cases gs with
       | nil => exact absurd rfl h2
       | cons g gs =>
         obtain ⟨tg, it, ifs, n⟩ := g
         cases n with
         | ofNat m => cases m <;> cases gs <;> first | exact absurd rfl h2 | exact absurd rfl h1
         | negSucc m => cases gs <;> exact absurd rfl h2)
theorem sx_assign (pg : PG prog w G Γ h₀ mg mb) (hc : SC prog w h₀ Φ d) {i : Nat} {a : ME} : SX prog w G h₀ Φ d (.assign i a) := fun S x env vars fz μ s R A E h hA C hq => by
  replace h := invS_assign h; obtain ⟨x, px, v, p, rfl, h1, h2⟩ := h
  have plain : ∀ hs : swapsWith v (some (.Name x px)) p.line env = pure false, wpAny (model prog w) A (exec (.Assign [.Name x px] v p) env) (PostF prog w h₀ S env fz μ s R) E s := by
    intro hs
    refine wpAny_Assign_Name (wpAny_mono ((Y5 pg hc a).1 S _ env vars fz μ s _ A E h2 hA C hq) (fun u s₁ h₁ => ?_) fun _ _ e => e) hs
    obtain ⟨mv, μ₁, hq₁, rv, r₁, g₁⟩ := h₁
    exact Zr (C.grow g₁ r₁) h1 rv fun s₂ C₂ g₂ k₂ l₂ => ⟨.next, _, μ₁, hq₁, rfl, C₂, g₁.toS.trans g₂⟩
  by_cases hcomp : a.tag = .lc
  · obtain ⟨elt, t, k, its, ifs, rfl⟩ := lc_of hcomp
    obtain ⟨el, tg, iter, ifs', sc, vp, rfl, hok⟩ := Am h2
    have hsw : ∃ b : Bool, swapsWith (.ListComp el [⟨tg, iter, ifs', 0⟩] sc vp) (some (.Name x px)) p.line env = pure b := ⟨_, rfl⟩
    obtain ⟨b, hsw⟩ := hsw
    cases b with
    | false => exact plain hsw
    | true =>
      have hR : ∀ D L s', CompEnd prog w fz μ s (fun v μ' => R .next (setv vars i v) μ') D L s' → compPost (model prog w) A E (some (assign (.Name x px) env)) (fun _ s' => PostF prog w h₀ S env fz μ s R .next s') (.ref D) L (.ok .next) s' := by
        intro D L s' e
        obtain ⟨⟨μ', hq', r', g', hL⟩, hf, m, hn⟩ := e
        have C' := C.grow g' r'
        show wpAny _ A (assign (.Name x px) env (.ref D)) _ _ s'
        refine PySem.wpAny_assign_Name (Zr C' h1 (mv := .ref D) rfl fun s₂ C₂ g₂ k₂ l₂ => ?_)
        have hLl : L ≠ env.locals := fun q => by
          obtain ⟨mm, ⟨o, es, ep, ho, _⟩, _⟩ := C.fr.ns
          rw [← q] at ho
          exact hf o (.inl (by rw [q]; exact C.fr.fixl)) ho
        have hLc : ∀ y c, (y, c) ∈ env.cells → L ≠ c := fun y c hm q => by
          subst q
          obtain ⟨f1, _, u, o, ho, _⟩ := C.fr.fixc y L hm
          exact hf o (.inl f1) ho
        have hn₂ : s₂.heap.Ns L m := hn.at' fun o e => (g₂.keep L o (.inl hL) hLl hLc e).1
        refine ⟨m, hn₂, fun h'' hs'' => ⟨.next, _, μ', hq', rfl, ?_, ?_⟩⟩
        · refine C₂.skip (wr := [L]) (s' := { s₂ with heap := h'' }) (fun b o e hi => SameBut.keep hs'' b o (fun q => by simp at q; subst q; exact Vq hn₂ o e hi) e) (SameBut.keep hs'') (by simp [hL]) ?_ (by simpa using Ne.symm hLl) (fun y c hm => by simpa using Ne.symm (hLc y c hm))
          intro b hb
          simp at hb; subst hb
          cases q : h₀.get? b with
          | none => rfl
          | some o => exact (hf o (C.base b o q).2 (C.base b o q).1).elim
        · have gg := g'.toS.trans g₂
          exact ⟨fun b o f l c e => by
            obtain ⟨e1, e2⟩ := gg.keep b o f l c e
            exact ⟨SameBut.keep hs'' b o (fun q => by simp at q; subst q; exact hf o f e) e1, e2⟩, gg.os, gg.gens⟩
      obtain ⟨hs, hclos, hw⟩ := Al (E := E) (RR := fun acc L => compPost (model prog w) A E (some (assign (.Name x px) env)) (fun _ s' => PostF prog w h₀ S env fz μ s R .next s') acc L) pg (Y1 pg hc its) (Y1 pg hc ifs) (Y5 pg hc elt).1 hok hA C hq hR
      rw [exec_Assign_Name_used _ _ _ _ hsw]
      refine wpAny_bind (wpAny_standAt (wpAny_bind ?_))
      show wpAny _ A (do let _ ← comprehension (.ListComp el [⟨tg, iter, ifs', 0⟩] sc vp) sc env _ (newList []) false (eval iter env) (some (assign (.Name x px) env))) _ _ s
      refine wpAny_bind (wpAny_mono (wpAny_comprehension_free (use := some (assign (.Name x px) env)) (Q := fun _ s' => PostF prog w h₀ S env fz μ s R .next s') rfl hs hclos hok.inn.kind (fun x hx hl => by rw [hok.inn.look x hx, hl]) hw) (fun _ s' hq => wpAny_pure (wpAny_pure hq)) fun _ _ e => e)
  · exact plain (swaps_name (Bb h2 ▸ hcomp) (by rw [Bb h2]; exact tag_other h2) _ _ _)
end
end Mine
end
section
namespace Mine
open PySem PySem.Calls PyProof.Rows PySem.W
section
variable {prog : Program} {w : World} {G : String → Option MV} {Γ : String → Option MFun} {h₀ : Heap} {mg mb : Str → Option Value} {Φ : CallSpec} {d : Nat}
theorem Cur.back {S : Sc} {env : Env} {vars vars' : MVars} {fz cs : List Addr} {μ μ' : MH} {s s' : Shared} (C' : Cur prog w h₀ S env vars' (cs ++ fz) μ' s') (C : Cur prog w h₀ S env vars fz μ s) (g : GrowS env fz μ s μ' s') : Cur prog w h₀ S env vars' fz μ' s' :=
  { C' with
    base := fun b o e => by
      obtain ⟨e1, f⟩ := C.base b o e
      obtain ⟨e2, q⟩ := g.keep b o f (fun q => by rw [q, C.newl] at e; cases e) (fun x c hm q => by rw [q, C.newc x c hm] at e; cases e) e1
      exact ⟨e2, f.imp (fun z => q.trans z) id⟩
    fzin := C'.fzin.left }
theorem GrowS.keepT {S : Sc} {env : Env} {vars : MVars} {fz : List Addr} {μ μ' : MH} {s s' : Shared} (C : Cur prog w h₀ S env vars fz μ s) (g : GrowS env fz μ s μ' s') : KeepsT s.heap s'.heap := fun b o e hi => by
  refine (g.keep b o (.inl (tupNone C.heap e hi)) (fun q => ?_) (fun x c hc q => ?_) e).1
  · subst q
    obtain ⟨m, hn, _⟩ := C.fr.ns
    exact Vq hn o e hi
  · subst q
    obtain ⟨_, _, v, o', ho, hd⟩ := C.fr.fixc x b hc
    rw [e] at ho; cases ho
    rcases hi with ⟨_, _, _, q⟩ | ⟨_, _, q⟩ | ⟨_, _, q⟩ <;> rw [hd] at q <;> cases q
structure ForInv (prog : Program) (w : World) (h₀ : Heap) (S : Sc) (env : Env) (t : MT) (B : MVars → (MFlow → MVars → MH → Prop) → MH → Prop) (R : MFlow → MVars → MH → Prop) (fz held fp wr : List Addr) (St : Nat → Heap → Prop) (all : List MV) (μ₁ : MH) (sa : Shared) (i : Nat) (vars' : MVars) (μ' : MH) (s' : Shared) : Prop where
  le : i ≤ all.length
  st : St i s'.heap
  cur : Cur prog w h₀ S env vars' (held ++ fz) μ' s'
  gr : GrowS env (held ++ fz) μ₁ sa μ' s'
  fp : ∀ b ∈ fp, (μ' b = none ∨ b ∈ held ++ fz) ∧ ∃ o, s'.heap.get? b = some o
  wr : ∀ b ∈ wr, μ' b = none
  run : loopM t B R (all.drop i) vars' μ'
inductive ForAt (prog : Program) (w : World) (h₀ : Heap) (S : Sc) (env : Env) (t : MT) (B : MVars → (MFlow → MVars → MH → Prop) → MH → Prop) (R : MFlow → MVars → MH → Prop) (fz held fp wr : List Addr) (St : Nat → Heap → Prop) (all : List MV) (μ₁ : MH) (sa : Shared) (n : Nat) (s' : Shared) : Prop
  | mk (i : Nat) (vars' : MVars) (μ' : MH) (e : n = all.length + 1 - i) (h : ForInv prog w h₀ S env t B R fz held fp wr St all μ₁ sa i vars' μ' s')
theorem for_gen (pg : PG prog w G Γ h₀ mg mb) {t : MT} {k : SK} {its : List ME} {body : List MS} (hits : ∀ e ∈ its, SS prog w G h₀ Φ d e) {S : Sc} {x : PySem.Stmt} {env : Env} {vars : MVars} {fz : List Addr} {μ : MH} {s : Shared} {R : MFlow → MVars → MH → Prop} {A : Around} {E : Value → Shared → Prop} {B : List Addr → MVars → (MFlow → MVars → MH → Prop) → MH → Prop} (h : isS S (.for t k its body) x = true) (hA : OkA d A) (C : Cur prog w h₀ S env vars fz μ s)
    (hq : evs G Φ X0 its fz vars (fun vs μ' => ∃ src all, mkSrc k vs = some src ∧ src.items μ' = some all ∧ fits all.length ∧ loopM t (B src.held) R all vars μ') μ)
    (hbody : ∀ (held : List Addr) (bd : List PySem.Stmt) (vars' : MVars) (μ' : MH) (s' : Shared) (F : MFlow → MVars → MH → Prop), isSs S body bd = true → Cur prog w h₀ S env vars' (held ++ fz) μ' s' → GrowS env fz μ s μ' s' → B held vars' F μ' → wpAny (model prog w) A (execs bd env) (PostF prog w h₀ S env (held ++ fz) μ' s' F) (notedBy (model prog w) A env fun e s' => cameBackBy (model prog w) A env E e s') s') : wpAny (model prog w) A (exec x env) (PostF prog w h₀ S env fz μ s R) E s := by
  replace h := invS_for h; obtain ⟨tg, iter, bd, p, as, rfl, has, hsrc, htg, hbd⟩ := h
  obtain ⟨hfold, hsource⟩ := Pv (E := E) pg hits has hsrc hA C hq
  refine wpAny_For (wpAny_mono hsource (fun x s₁ h₁ => wpAny_mono h₁ (fun it s₂ h₂ => ?_) fun _ _ e => e) fun _ _ e => e) hfold
  obtain ⟨src, all, μ₁, sa, ⟨hfit, hK⟩, hit, ra, ga, hat⟩ := h₂
  obtain ⟨Ia, fp, wr, St, rfl, W, hst, hfp, hwr, hkeep, hos, hgens⟩ := hat
  have Ca := C.grow ga ra
  have C₂ : Cur prog w h₀ S env vars fz μ₁ s₂ := Ca.ext hkeep
  have hnc : ∀ b ∈ fp, ∀ x c, (x, c) ∈ env.cells → b ≠ c := by
    intro b hb x c hc e
    subst e
    obtain ⟨_, _, v, o, ho, hd⟩ := C₂.fr.fixc x b hc
    obtain ⟨_, o', ho', hd'⟩ := hfp b hb
    rw [ho] at ho'; cases ho'; exact hd'.1 v hd
  have hnl : ∀ b ∈ fp, b ≠ env.locals := by
    intro b hb e
    subst e
    obtain ⟨m, ⟨o, es, ep, ho, hd, _⟩, _⟩ := C₂.fr.ns
    obtain ⟨_, o', ho', _, hd'⟩ := hfp _ hb
    rw [ho] at ho'; cases ho'
    rcases hd' with q | q
    · exact Be hit _ q C₂.fr.fixl
    · exact q es ep hd
  have hwr0 : ∀ b ∈ wr, h₀.get? b = none := fun b hb => by
    cases q : h₀.get? b with
    | none => rfl
    | some o => have := (Ca.base b o q).1; rw [(hwr b hb).1] at this; cases this
  have hcwr : ∀ x c, (x, c) ∈ env.cells → c ∉ wr := fun x c hc hm => hnc c (W.sub c hm) x c hc rfl
  have hlwr : env.locals ∉ wr := fun m => hnl _ (W.sub _ m) rfl
  have Cw := C₂.weak (cs := src.held) (Be hit)
  let Inv : Nat → Shared → Prop := ForAt prog w h₀ S env t (B src.held) R fz src.held fp wr St all μ₁ sa
  refine codeAny_forLoop_any Inv ?_ (all.length + 1) ?_
  · rintro n s' ⟨i, vars', μ', rfl, hi, hst', C', g', hfp', hwr', hM⟩
    by_cases hlt : i < all.length
    · have hm : all[i]? = some all[i] := List.getElem?_eq_getElem hlt
      rw [List.drop_eq_getElem_cons hlt] at hM
      obtain ⟨vars'', hb, hM⟩ := hM
      refine W.item i all[i] s' _ _ hm hst' fun v h' tk rv st' kt hk => ?_
      refine W.go tg i v _ _ _ st' ?_
      have C1 : Cur prog w h₀ S env vars' (src.held ++ fz) μ' { s' with heap := h', toks := tk } := C'.skip kt hk hwr' hwr0 hlwr hcwr
      have g1 : GrowS env (src.held ++ fz) μ₁ sa μ' { s' with heap := h', toks := tk } := g'.skip hk (fun b hb => (hwr b hb).1) rfl rfl
      refine Pt hA.hand C1 htg rv hb fun s₅ C2 gs2 kt2 kl2 => ?_
      have g2 := g1.trans gs2
      have hkb : ∀ b ∈ fp, ∀ o, h'.get? b = some o → s₅.heap.get? b = some o := fun b hb o e => (gs2.keep b o (hfp' b hb).1 (hnl b hb) (fun x c hc => hnc b hb x c hc) e).1
      have hst5 : St (i + 1) s₅.heap := W.frame _ _ _ st' kt2 hkb
      have hfp5 : ∀ b ∈ fp, (μ' b = none ∨ b ∈ src.held ++ fz) ∧ ∃ o, s₅.heap.get? b = some o := by
        intro b hb
        refine ⟨(hfp' b hb).1, ?_⟩
        by_cases hw : b ∈ wr
        · obtain ⟨o, ho⟩ := W.alive _ _ st' b hw
          exact ⟨o, hkb b hb o ho⟩
        · obtain ⟨o, ho⟩ := (hfp' b hb).2
          exact ⟨o, hkb b hb o (hk b o hw ho)⟩
      refine wpAny_mono (hbody _ bd vars'' μ' s₅ _ hbd C2 (ga.toS.trans g2.weak) hM) (fun f s₆ h₆ => ?_) fun _ _ e => e
      obtain ⟨fl, vars₆, μ₆, hq₆, hf, C6, g₆⟩ := h₆
      have g6 := g2.trans g₆
      have gback := ga.toS.trans g6.weak
      have next : ∀ hh : loopM t (B src.held) R (all.drop (i + 1)) vars₆ μ₆, ∃ m, m < all.length + 1 - i ∧ Inv m s₆ := by
        intro hh
        refine ⟨all.length + 1 - (i + 1), by lia, i + 1, vars₆, μ₆, rfl, hlt, ?_, C6, g6, ?_, ?_, hh⟩
        · exact W.frame _ _ _ hst5 (g₆.keepT C2) fun b hb o e => (g₆.keep b o (hfp5 b hb).1 (hnl b hb) (fun x c hc => hnc b hb x c hc) e).1
        · intro b hb
          obtain ⟨q, o, ho⟩ := hfp5 b hb
          obtain ⟨e1, e2⟩ := g₆.keep b o q (hnl b hb) (fun x c hc => hnc b hb x c hc) ho
          exact ⟨q.imp (fun z => e2.trans z) id, o, e1⟩
        · intro b hb
          obtain ⟨q, o, ho⟩ := hfp5 b (W.sub b hb)
          exact (g₆.keep b o q (hnl b (W.sub b hb)) (fun x c hc => hnc b (W.sub b hb) x c hc) ho).2.trans (hwr' b hb)
      cases fl with
      | next => obtain rfl := hf; exact next hq₆
      | cont => obtain rfl := hf; exact next hq₆
      | brk => obtain rfl := hf; exact ⟨.next, vars₆, μ₆, hq₆, rfl, C6.back C gback, gback⟩
      | ret m => obtain ⟨v, rfl, rv⟩ := hf; exact ⟨.ret m, vars₆, μ₆, hq₆, ⟨v, rfl, rv⟩, C6.back C gback, gback⟩
    · have hie : i = all.length := by lia
      subst hie
      rw [List.drop_length] at hM
      refine W.done s' _ _ hst' fun h' tk kt hk => ?_
      have C1 : Cur prog w h₀ S env vars' (src.held ++ fz) μ' { s' with heap := h', toks := tk } := C'.skip kt hk hwr' hwr0 hlwr hcwr
      have g1 : GrowS env (src.held ++ fz) μ₁ sa μ' { s' with heap := h', toks := tk } := g'.skip hk (fun b hb => (hwr b hb).1) rfl rfl
      have gback := ga.toS.trans g1.weak
      exact wpAny_execs_nil ⟨.next, vars', μ', hM, rfl, C1.back C gback, gback⟩
  · refine ⟨0, vars, μ₁, rfl, Nat.zero_le _, hst, Cw, ⟨fun b o _ _ _ e => ⟨hkeep b o e, rfl⟩, hos, hgens⟩, ?_, fun b hb => (hwr b hb).2, ?_⟩
    · intro b hb
      obtain ⟨q, o, ho, _⟩ := hfp b hb
      exact ⟨q.imp id fun m => List.mem_append_left _ m, o, ho⟩
    · rw [List.drop_zero]; exact hK
theorem sx_for (pg : PG prog w G Γ h₀ mg mb) {t : MT} {k : SK} {its : List ME} {body : List MS} (hits : ∀ e ∈ its, SS prog w G h₀ Φ d e) (hbody : SXs prog w G h₀ Φ d body) : SX prog w G h₀ Φ d (.for t k its body) := fun S x env vars fz μ s R A E h hA C hq =>
  for_gen pg hits (B := fun held vs F μ => exs G Φ X0 body (held ++ fz) vs F μ) h hA C hq fun held bd vars' μ' s' F hbd C' _ hB => hbody S bd env vars' _ μ' s' F A _ hbd hA C' hB
theorem sx_raise0 : SX prog w G h₀ Φ d .raise0 := fun S x env vars fz μ s R A E h hA C hq => False.elim hq
theorem sx_tri {b : List MS} (hb : SXs prog w G h₀ Φ d b) : SX prog w G h₀ Φ d (.tri b) := fun S x env vars fz μ s R A E h hA C hq => by
  obtain ⟨y, hs, p, rfl, hn, h⟩ := invS_tri h
  cases hs with
  | nil => exact (Bool.false_ne_true hn).elim
  | cons h₀ hs =>
    refine wpAny_Try_except (wpAny_mono (hb S _ env vars fz μ s R A _ h hA C hq) (fun f s₁ h₁ => ?_) fun _ _ e => e)
    obtain ⟨fl, vars₁, μ₁, hq₁, hf, C₁, g₁⟩ := h₁
    cases fl with
    | next => obtain rfl := hf; exact wpAny_execs_nil ⟨.next, vars₁, μ₁, hq₁, rfl, C₁, g₁⟩
    | brk => obtain rfl := hf; exact ⟨.brk, vars₁, μ₁, hq₁, rfl, C₁, g₁⟩
    | cont => obtain rfl := hf; exact ⟨.cont, vars₁, μ₁, hq₁, rfl, C₁, g₁⟩
    | ret m => obtain ⟨v, rfl, rv⟩ := hf; exact ⟨.ret m, vars₁, μ₁, hq₁, ⟨v, rfl, rv⟩, C₁, g₁⟩
mutual
theorem soundS (pg : PG prog w G Γ h₀ mg mb) (hc : SC prog w h₀ Φ d) : ∀ st : MS, SX prog w G h₀ Φ d st
  | .assign i a => sx_assign pg hc
  | .unpack _ _ => fun S x env vars fz μ s R A E h hA C hq => (Bool.false_ne_true h).elim
  | .setidx o i a => sx_setidx (Y5 pg hc o).1 (Y5 pg hc i).1 (Y5 pg hc a).1
  | .expr a => sx_expr (Y5 pg hc a).1
  | .ret a => sx_ret (Y5 pg hc a).1
  | .ret0 => sx_ret0
  | .ite c a b => sx_ite (Y5 pg hc c).2 (J4 pg hc a) (J4 pg hc b)
  | .for t k its body => sx_for pg (Y1 pg hc its) (J4 pg hc body)
  | .while _ _ => fun S x env vars fz μ s R A E h hA C hq => (Bool.false_ne_true h).elim
  | .pass => sx_pass
  | .opq _ => fun S x env vars fz μ s R A E h hA C hq => False.elim hq
  | .raise0 => sx_raise0
  | .tri b => sx_tri (J4 pg hc b)
theorem J4 (pg : PG prog w G Γ h₀ mg mb) (hc : SC prog w h₀ Φ d) : ∀ l : List MS, SXs prog w G h₀ Φ d l
  | [] => sx_nil
  | st :: l => sx_cons (soundS pg hc st) (J4 pg hc l)
end
end
end Mine
end
section
namespace Mine
open PySem PySem.Calls PyProof.Rows PySem.W
theorem Jl {α β : Type} {f g : α → Option β} : ∀ {l : List α}, (∀ x ∈ l, f x = g x) → l.filterMap f = l.filterMap g
  | [] => fun _ => rfl
  | a :: l => fun h => by rw [List.filterMap_cons, List.filterMap_cons, h a (.head _), Jl fun x hx => h x (.tail _ hx)]
theorem U4 : ∀ {names : List Str} {vals : List Value}, names.Nodup → vals.length = names.length → names.filterMap (fun n => ((names.zip vals).lookup n).map (n, ·)) = names.zip vals
  | [], [] => fun _ _ => rfl
  | n :: ns, v :: vs => fun hn hl => by
    simp only [List.nodup_cons] at hn
    have ih := U4 hn.2 (vals := vs) (by simpa using hl)
    rw [List.filterMap_cons]
    have e0 : List.lookup n ((n :: ns).zip (v :: vs)) = some v := by simp [List.lookup_cons]
    rw [e0]
    simp only [Option.map_some, List.zip_cons_cons]
    congr 1
    refine Eq.trans (Jl fun x hx => ?_) ih
    have : (x == n) = false := by rw [beq_eq_false_iff_ne]; rintro rfl; exact hn.1 hx
    rw [List.lookup_cons, this]
  | [], _ :: _ => fun _ h => by simp at h
  | _ :: _, [] => fun _ h => by simp at h
theorem zip_some : ∀ {names : List Str} {vals : List Value}, vals.length = names.length → ∀ n ∈ names, ((names.zip vals).lookup n).isSome = true
  | [], [] => fun _ _ h => by cases h
  | n :: ns, v :: vs => fun hl x hx => by
    simp only [List.zip_cons_cons, List.lookup_cons]
    cases q : x == n with
    | true => rfl
    | false =>
      rcases List.mem_cons.mp hx with rfl | hx
      · simp at q
      · exact zip_some (by simpa using hl) x hx
  | [], _ :: _ => fun h _ _ => by simp at h
  | _ :: _, [] => fun h _ _ => by simp at h
theorem P9 {name : Str} {body : List PySem.Stmt} {scope : Scope} {pm code doc : Value} {params : Arguments} {vals : List Value} (h1 : params.posonlyargs = []) (h2 : params.vararg = none) (h3 : params.kwonlyargs = []) (h4 : params.kwarg = none)
    (hn : (params.args.map (·.arg)).Nodup) (hl : vals.length = (params.args.map (·.arg)).length) : bindArgs (docDef name params body scope pm code doc) ⟨vals, []⟩ = pure ((params.args.map (·.arg)).zip vals) := by
  obtain ⟨pa, as, va, kw, kd, ka, df⟩ := params
  obtain rfl : pa = [] := h1
  obtain rfl : va = none := h2
  obtain rfl : kw = [] := h3
  obtain rfl : ka = none := h4
  replace hn : (as.map (·.arg)).Nodup := hn
  replace hl : vals.length = (as.map (·.arg)).length := hl
  have e1 : ¬ (vals.length > (as.map (·.arg)).length) := by simp [*]
  have e2 : ((as.map (·.arg)).filter fun n => (((as.map (·.arg)).zip vals).lookup n).isNone) = [] := by
    rw [List.filter_eq_nil_iff]
    intro n hx
    have := zip_some hl n hx
    cases q : ((as.map (·.arg)).zip vals).lookup n with
    | none => rw [q] at this; cases this
    | some _ => simp
  have e3 := U4 hn hl
  show bindArgs _ _ = pure ((as.map (·.arg)).zip vals)
  generalize hN : as.map (·.arg) = names at e1 e2 e3 ⊢
  unfold bindArgs docDef
  simp [hN, e1, e2, e3, show seqItems? Value.none = pure none from rfl]
structure FunOk (fd : MFun) (tab : List (Nat × Str)) (funs : List String) (params : Arguments) (body : List PySem.Stmt) (sc : Scope) : Prop where
  p1 : params.posonlyargs = []
  p2 : params.vararg = none
  p3 : params.kwonlyargs = []
  p4 : params.kwarg = none
  n : params.args.length = fd.n
  par : ∀ (i : Nat) (x : Str), (params.args.map (·.arg))[i]? = some x → tab.lookup i = some x ∧ (sc.names.lookup x = some .local ∨ sc.names.lookup x = some .cell)
  kind : sc.kind = .function
  gen : sc.isGenerator = false
  co : sc.isCoroutine = false
  nv : (tab.map (·.2)).Nodup
  nk : (tab.map (·.1)).Nodup
  nn : (sc.names.map (·.1)).Nodup
  np : (params.args.map (·.arg)).Nodup
  nofree : ∀ p ∈ sc.names, p.2 ≠ .free
  body : isSs ⟨tab, sc.names, funs⟩ fd.body body = true
theorem funOk_of {fd : MFun} {tab : List (Nat × Str)} {funs : List String} {params : Arguments} {body : List PySem.Stmt} {sc : Scope} (h : isFun fd tab funs params body sc = true) : FunOk fd tab funs params body sc := by
  unfold isFun at h
  simp only [Bool.and_eq_true, decide_eq_true_eq, List.isEmpty_iff, Option.isNone_iff_eq_none, List.all_eq_true, Bool.not_eq_true', beq_iff_eq] at h
  obtain ⟨⟨⟨⟨⟨⟨⟨⟨⟨⟨⟨⟨⟨⟨⟨⟨h1, h2⟩, h3⟩, h4⟩, h5⟩, h6⟩, h7⟩, h8⟩, h9⟩, h10⟩, h11⟩, h12⟩, h13⟩, h14⟩, h15⟩, h16⟩, h17⟩ := h
  refine ⟨h1, h2, h3, h4, h7, fun i x hx => ?_, ?_, h10, h11, h12, h13, h14, h15, fun p hp e => ?_, h17⟩
  · have hm : (x, i) ∈ (params.args.map (·.arg)).zipIdx := by
      rw [List.mem_zipIdx_iff_getElem?]; exact hx
    obtain ⟨q1, q2⟩ := h8 _ hm
    refine ⟨q1, ?_⟩
    simpa only [kindSt, Bool.or_eq_true, decide_eq_true_eq] using q2
  · exact h9
  · have := h16 p hp
    rw [e] at this; simp [isFree] at this
theorem Jh {p : Str × Addr} : ∀ {names : List (Str × NameKind)} {n : Nat} {acc : List (Str × Addr)}, p ∈ acc → p ∈ cellsFrom n names acc
  | [], _, _ => fun h => h
  | (x, k) :: r, n, acc => fun h => by
    unfold cellsFrom
    split
    · exact Jh (.tail _ h)
    · exact Jh h
theorem Z3 {x : Str} : ∀ {names : List (Str × NameKind)} {n : Nat} {acc : List (Str × Addr)}, (x, NameKind.cell) ∈ names → ∃ c, (x, c) ∈ cellsFrom n names acc
  | (y, k) :: r, n, acc, h => by
    unfold cellsFrom
    rcases List.mem_cons.mp h with h1 | h1
    · cases h1
      rw [if_pos (by simp)]
      exact ⟨n, Jh (.head _)⟩
    · split
      · exact Z3 h1
      · exact Z3 h1
theorem Yu : ∀ {names : List (Str × NameKind)} {n : Nat} {acc : List (Str × Addr)}, (names.map (·.1)).Nodup → (acc.map (·.1)).Nodup → (∀ p ∈ acc, p.1 ∉ names.map (·.1)) → ((cellsFrom n names acc).map (·.1)).Nodup
  | [], _, _ => fun _ h _ => h
  | (y, k) :: r, n, acc => fun hn ha hd => by
    simp only [List.map_cons, List.nodup_cons] at hn
    unfold cellsFrom
    split
    · refine Yu hn.2 ?_ ?_
      · simp only [List.map_cons, List.nodup_cons]
        refine ⟨fun m => ?_, ha⟩
        obtain ⟨p, hp, e⟩ := List.mem_map.mp m
        exact hd p hp (by rw [e]; simp)
      · intro p hp
        rcases List.mem_cons.mp hp with rfl | hp
        · exact hn.1
        · exact fun m => hd p hp (by simp at m ⊢; exact .inr m)
    · exact Yu hn.2 ha fun p hp m => hd p hp (by simp at m ⊢; exact .inr m)
theorem Zg : ∀ {l : List (Str × Addr)}, (l.map (·.1)).Nodup → ∀ p ∈ l, l.lookup p.1 = some p.2
  | (n, k) :: r, h, p, hp => by
    simp only [List.map_cons, List.nodup_cons] at h
    rcases List.mem_cons.mp hp with rfl | hp'
    · simp [List.lookup_cons]
    · rw [List.lookup_cons]
      have : (p.1 == n) = false := by
        rw [beq_eq_false_iff_ne]; rintro rfl
        exact h.1 (List.mem_map_of_mem (f := (·.1)) hp')
      rw [this]; exact Zg h.2 p hp'
theorem Nl {kindOf : Str → Option NameKind} {x : Str} : ∀ {binds : List (Str × Value)} {m : Str → Option Value}, x ∉ binds.map (·.1) → bindL kindOf binds m x = m x
  | [], m => fun _ => rfl
  | (n, v) :: r, m => fun h => by
    simp only [List.map_cons, List.mem_cons, not_or] at h
    unfold bindL
    rw [Nl h.2]
    split
    · simp [h.1]
    · rfl
theorem An {kindOf : Str → Option NameKind} {x : Str} {v : Value} (hk : kindOf x = some .local) : ∀ {binds : List (Str × Value)} {m : Str → Option Value}, (binds.map (·.1)).Nodup → (x, v) ∈ binds → bindL kindOf binds m x = some v
  | (n, u) :: r, m, hn, h => by
    simp only [List.map_cons, List.nodup_cons] at hn
    unfold bindL
    rcases List.mem_cons.mp h with h1 | h1
    · cases h1
      rw [Nl hn.1, if_pos hk]; simp
    · exact An hk hn.2 h1
theorem Nm {kindOf : Str → Option NameKind} {x : Str} : ∀ {binds : List (Str × Value)} {m : Str → Option Value}, x ∉ binds.map (·.1) → bindC kindOf binds m x = m x
  | [], m => fun _ => rfl
  | (n, v) :: r, m => fun h => by
    simp only [List.map_cons, List.mem_cons, not_or] at h
    unfold bindC
    rw [Nm h.2]
    split
    · rfl
    · simp [h.1]
theorem Ao {kindOf : Str → Option NameKind} {x : Str} {v : Value} (hk : kindOf x = some .cell) : ∀ {binds : List (Str × Value)} {m : Str → Option Value}, (binds.map (·.1)).Nodup → (x, v) ∈ binds → bindC kindOf binds m x = some v
  | (n, u) :: r, m, hn, h => by
    simp only [List.map_cons, List.nodup_cons] at hn
    unfold bindC
    rcases List.mem_cons.mp h with h1 | h1
    · cases h1
      rw [Nm hn.1, if_neg (by rw [hk]; simp)]; simp
    · exact Ao hk hn.2 h1
section
variable {prog : Program} {w : World} {G : String → Option MV} {Γ : String → Option MFun} {h₀ : Heap} {mg mb : Str → Option Value}
theorem PG.fnAt (pg : PG prog w G Γ h₀ mg mb) {f : String} {fd : MFun} (h : Γ f = some fd) : ∃ fa, FnAt h₀ f fa := by
  obtain ⟨a, o, pm, code, doc, params, body, scope, tab, funs, h1, h2, h3, _⟩ := pg.fn f fd h
  exact ⟨a, mg, pg.g, h1, o, _, h2, h3⟩
structure Entered (s : Shared) (env : Env) (s₁ : Shared) : Prop where
  keep : ∀ b o, s.heap.get? b = some o → s₁.heap.get? b = some o
  os : s₁.os = s.os
  gens : s₁.gens = s.gens
  new : s.heap.get? env.locals = none
  frame : env.frame = some env.locals
  cells : ∀ y c, (y, c) ∈ env.cells → s.heap.get? c = none
theorem P0 (pg : PG prog w G Γ h₀ mg mb) {d : Nat} {f : String} {fd : MFun} {vs : List MV} {vals : List Value} {fz : List Addr} {μ : MH} {s : Shared} {A : Around} {fa : Addr} {R : Result → Shared → Prop} (hΓ : Γ f = some fd) (hn : vs.length = fd.n) (hA : OkA (d + 1) A) (B : Base h₀ fz μ s) (r : RepH prog w μ s.heap) (fi : FzIn fz μ) (rv : RepVs s.heap vs vals) (hfn : FnAt h₀ f fa)
    (k : ∀ (S : Sc) (env : Env) (body : List PySem.Stmt) (s₁ : Shared), isSs S fd.body body = true → Cur prog w h₀ S env (args0 vs) fz μ s₁ → OkA d (A.deeper env) → Entered s env s₁ →
      wpAny (model prog w) (A.deeper env) (execs body env) (fun f s' => R (.ok (.ret (match f with | .ret v => v | _ => .none))) s') (fun e s' => wpAny (model prog w) (A.deeper env) (leaving env e) (fun _ s'' => R (.error e) s'') (fun e' s'' => R (.error e') s'') s') s₁) :
    codeAny (model prog w) A (.call (.ref fa) ⟨vals, []⟩) R s := by
  obtain ⟨a, o, pm, code, doc, params, body, scope, tab, funs, hmf, ho, hdata, hcode, hfun, hfuns⟩ := pg.fn f fd hΓ
  obtain ⟨m, hm, hmf', _⟩ := hfn
  have : m = mg := hm.eq_nsMap.trans pg.g.eq_nsMap.symm
  subst this
  rw [hmf] at hmf'; cases hmf'
  have F := funOk_of hfun
  have keep0 : ∀ b o, h₀.get? b = some o → s.heap.get? b = some o := fun b o e => (B b o e).1
  have hlen : vals.length = (params.args.map (·.arg)).length := by rw [rv.length, hn, List.length_map, F.n]
  have hfst : (((params.args.map (·.arg)).zip vals).map (·.1)) = params.args.map (·.arg) := List.map_fst_zip (by simp [*])
  have hkinds : ∀ x ∈ (params.args.map (·.arg)).zip vals, scope.names.lookup x.1 = some .local ∨ (scope.names.lookup x.1 = some .cell ∧ ((cellsFrom (s.heap.objs.size + 1) scope.names []).lookup x.1).isSome = true) := by
    intro x hx
    have hx1 : x.1 ∈ params.args.map (·.arg) := by rw [← hfst]; exact List.mem_map_of_mem hx
    obtain ⟨i, hi⟩ := List.mem_iff_getElem?.mp hx1
    rcases (F.par i x.1 hi).2 with q | q
    · exact .inl q
    · refine .inr ⟨q, ?_⟩
      obtain ⟨c, hc⟩ := Z3 (n := s.heap.objs.size + 1) (acc := []) (mem_of_lookup q)
      rw [Zg (Yu F.nn (by simp) (by simp)) _ hc]; rfl
  refine codeAny_call_cells (binds := (params.args.map (·.arg)).zip vals) (by have := hA.depth; lia) (keep0 _ _ ho) hdata (pg.nolimit.keeps keep0) (hcode.keeps keep0) rfl (P9 F.p1 F.p2 F.p3 F.p4 F.np hlen) rfl hkinds (fun s₁ x => ?_) F.co F.gen F.kind
  generalize hL : s.heap.objs.size = L at x ⊢
  obtain ⟨⟨h', tk, hs₁⟩, hns, hkeep, hfresh⟩ := x.toInCall
  have hos : s₁.os = s.os := by rw [hs₁]
  have hgens : s₁.gens = s.gens := by rw [hs₁]
  have above : ∀ b, L ≤ b → s.heap.get? b = none := fun b hb => by
    cases q : s.heap.get? b with
    | none => rfl
    | some o => have := Heap.lt_size q; rw [hL] at this; exact absurd this (Nat.not_lt.mpr hb)
  have none0 : ∀ b, s.heap.get? b = none → h₀.get? b = none := fun b e => by
    cases q : h₀.get? b with
    | none => rfl
    | some o => have := keep0 b o q; rw [e] at this; cases this
  have cnd : ((cellsFrom (L + 1) scope.names []).map (·.1)).Nodup := Yu F.nn (by simp) (by simp)
  have C : Cur prog w h₀ ⟨tab, scope.names, funs⟩ (callEnvC (docDef (Str.ofString f) params body scope pm code doc) L fa) (args0 vs) fz μ s₁ := by
    refine { base := fun b o e => ⟨hkeep b o (B b o e).1, (B b o e).2⟩, heap := r.ext hkeep, fzin := fi, newl := none0 _ (above _ (Nat.le_refl _)), newc := ?nc, known := ?kn, fr := ?fr }
    case nc => exact fun x' c hc => none0 _ (above _ (Nat.le_of_lt (x.above x' c hc)))
    case kn =>
      intro g hg
      obtain ⟨fd', hg'⟩ := hfuns g hg
      exact pg.fnAt hg'
    case fr =>
      refine { names := rfl, inj := inj_of F.nv, nk := F.nk, nv := F.nv, kind := F.kind, glob := rfl, bui := rfl, ns := ⟨_, hns, ?ns⟩, cells := ?cs, apart := x.apart, fixl := r.free (above _ (Nat.le_refl _)), fixc := ?fx }
      case ns =>
        intro i y mv hi hkv hv
        have hvi : vs[i]? = some mv := hv
        obtain ⟨v, hval, hrep⟩ := rv.get hvi
        have hilt : i < (params.args.map (·.arg)).length := by rw [← hlen]; exact (List.getElem?_eq_some_iff.mp hval).1
        have hpi := List.getElem?_eq_getElem hilt
        obtain ⟨q1, q2⟩ := F.par i _ hpi
        have hy : (params.args.map (·.arg))[i] = y := by
          have : some _ = some y := q1.symm.trans hi
          exact Option.some.inj this
        rw [hy] at q2 hpi
        have hmem : (y, v) ∈ (params.args.map (·.arg)).zip vals := by
          refine List.mem_iff_getElem?.mpr ⟨i, ?_⟩
          rw [List.getElem?_zip_eq_some]; exact ⟨hpi, hval⟩
        refine ⟨v, hrep.keepT (.of_all hkeep), ?_⟩
        have hko : (callEnvC (docDef (Str.ofString f) params body scope pm code doc) L fa).kindOf y = scope.names.lookup y := rfl
        unfold VarAt
        rw [hko]
        rcases q2 with q | q
        · rw [q]; exact An (by rw [hko]; exact q) (by rw [hfst]; exact F.np) hmem
        · rw [q]
          obtain ⟨c, hc⟩ := Z3 (n := L + 1) (acc := []) (mem_of_lookup q)
          have hc' := Zg cnd _ hc
          refine ⟨c, hc', ?_⟩
          have := x.cell y c hc'
          rw [Ao (by rw [hko]; exact q) (by rw [hfst]; exact F.np) hmem] at this
          exact this
      case cs =>
        intro y hy
        rcases hy with q | q
        · obtain ⟨c, hc⟩ := Z3 (n := L + 1) (acc := []) (mem_of_lookup q)
          exact ⟨c, Zg cnd _ hc⟩
        · exact absurd rfl (F.nofree _ (mem_of_lookup q))
      case fx =>
        intro y c hc
        exact ⟨r.free (above _ (Nat.le_of_lt (x.above y c hc))), Ne.symm (Nat.ne_of_lt (x.above y c hc)), _, x.cell y c (Zg cnd _ hc)⟩
  have hA' : OkA d (A.deeper (callEnvC (docDef (Str.ofString f) params body scope pm code doc) L fa)) := ⟨hA.hand, by have := hA.depth; show A.depth + 1 + d < _; lia, by have := hA.units; show A.units + 3 + 4 * d + 100 < _; lia⟩
  exact k _ _ _ _ F.body C hA' ⟨hkeep, hos, hgens, above _ (Nat.le_refl _), rfl, fun y c hc => above _ (Nat.le_of_lt (x.above y c hc))⟩
theorem Ym (pg : PG prog w G Γ h₀ mg mb) (d : Nat) : SC prog w h₀ (calls G Γ d) d := by
  induction d with
  | zero => exact fun f vs vals fz μ s Q A E fa hA B r fi rv hfn h => h.elim
  | succ d ih =>
    intro f vs vals fz μ s Q A E fa hA B r fi rv hfn h
    obtain ⟨fd, hΓ, hn, hex⟩ := h
    refine wpAny_call (P0 pg hΓ hn hA B r fi rv hfn fun S env body s₁ hb C hA' en => ?_)
    refine wpAny_mono (J4 pg ih fd.body _ body _ _ fz μ s₁ _ _ _ hb hA' C hex) (fun fl s₂ h₂ => ?_) fun _ _ e => e
    obtain ⟨mf, vars₂, μ₂, hq₂, hf, C₂, g₂⟩ := h₂
    have ne : ∀ {b c : Addr} {o : Obj}, s.heap.get? b = some o → s.heap.get? c = none → b ≠ c := fun e n q => by rw [q, n] at e; cases e
    have g : Grow fz μ s μ₂ s₂ := ⟨fun b o f e => g₂.keep b o f (ne e en.new) (fun y c hc => ne e (en.cells y c hc)) (en.keep b o e), g₂.os.trans en.os, g₂.gens.trans en.gens⟩
    cases mf with
    | next => simp only [RepFl] at hf; subst hf; exact ⟨.none, μ₂, hq₂, rfl, C₂.heap, g⟩
    | brk => exact hq₂.elim
    | cont => exact hq₂.elim
    | ret mv => simp only [RepFl] at hf; obtain ⟨v, rfl, hv⟩ := hf; exact ⟨mv, μ₂, hq₂, hv, C₂.heap, g⟩
end
end Mine
end
section
namespace Mine
open PySem PySem.Calls PyProof.Rows PySem.W
abbrev Defs := List (String × MFun × List (Nat × Str))
noncomputable def Defs.env (D : Defs) (f : String) : Option MFun := (D.find? fun p => p.1 == f).map fun p => p.2.1
noncomputable def defOk (ds : List DefRec) (funs : List String) (p : String × MFun × List (Nat × Str)) : Bool :=
  match ds.find? fun d => d.name == Str.ofString p.1 with
  | some d => isFun p.2.1 p.2.2 funs d.params d.body d.scope
  | none => false
noncomputable def progOk (ds : List DefRec) (D : Defs) : Bool := D.all (defOk ds (D.map (·.1)))
abbrev Consts := List (String × MV)
noncomputable def Consts.env (C : Consts) (g : String) : Option MV := (C.find? fun p => p.1 == g).map (·.2)
noncomputable def constOk (vo : Str → Option PyData) (p : String × MV) : Bool := match p.2, vo (Str.ofString p.1) with
  | .int i, some (.int j) => i == j
  | .str x, some (.str y) => x == y
  | _, _ => false
noncomputable def biOk (bt : Str → Option Value) : Bool := biTab.all fun p => !(Str.ofString p.1 == Str.ofString "__name__") && decide (bt (Str.ofString p.1) = some p.2)
section
variable {prog p : Program} {w : World} {loose : List Str} {mean : ExcName → Option Value} {mg mb : Str → Option Value} {h : Heap}
theorem pg_of (T : Top p loose mean mg mb h) (D : Defs) (Cs : Consts) (h1 : progOk (recsOf p) D = true) (h2 : Cs.all (constOk (valOf p)) = true)
    (h3 : biTab.all (fun q => !startupNames.contains (Str.ofString q.1) && !loose.contains (Str.ofString q.1) && !((recsOf p).map (·.name)).contains (Str.ofString q.1) && !((litsOf p).map (·.1)).contains (Str.ofString q.1) && !((clssOf p loose).map (·.name)).contains (Str.ofString q.1)) = true)
    (h4 : biOk bootBuiltins = true) : PG prog w Cs.env D.env h mg mb where
  g := T.g
  b := T.b
  nolimit := T.nolimit
  bi := fun q hq => by
    have a := List.all_eq_true.mp h3 q hq
    simp only [Bool.and_eq_true, Bool.not_eq_true', List.contains_eq_mem, decide_eq_false_iff_not] at a
    have b := List.all_eq_true.mp h4 q hq
    simp only [Bool.and_eq_true, Bool.not_eq_true', decide_eq_true_eq, beq_eq_false_iff_ne] at b
    refine ⟨T.free _ a.1.1.1.1 a.1.1.1.2 a.1.1.2 a.1.2 a.2, ?_⟩
    rw [T.builtins _ b.1]; exact b.2
  fn := fun f fd hf => by
    unfold Defs.env at hf
    rw [Option.map_eq_some_iff] at hf
    obtain ⟨q, hq, rfl⟩ := hf
    have hm := List.mem_of_find?_eq_some hq
    have hn : q.1 = f := by simpa using List.find?_some hq
    subst hn
    have a := List.all_eq_true.mp h1 q hm
    unfold defOk at a
    split at a
    · rename_i d hd
      have hdm := List.mem_of_find?_eq_some hd
      have hdn : d.name = Str.ofString q.1 := by simpa using List.find?_some hd
      obtain ⟨fa, o, pm, code, doc, e1, e2, e3, e4⟩ := T.fn d hdm
      rw [hdn] at e1 e3 e4
      refine ⟨fa, o, pm, code, doc, d.params, d.body, d.scope, q.2.2, D.map (·.1), e1, e2, e3, e4, a, fun g hg => ?_⟩
      obtain ⟨q', hq', rfl⟩ := List.mem_map.mp hg
      unfold Defs.env
      cases hfind : D.find? fun p => p.1 == q'.1 with
      | none => exact absurd (List.find?_eq_none.mp hfind q' hq') (by simp)
      | some z => exact ⟨z.2.1, rfl⟩
    · cases a
  const := fun g v hv => by
    unfold Consts.env at hv
    rw [Option.map_eq_some_iff] at hv
    obtain ⟨q, hq, rfl⟩ := hv
    have hm := List.mem_of_find?_eq_some hq
    have hn : q.1 = g := by simpa using List.find?_some hq
    subst hn
    have a := List.all_eq_true.mp h2 q hm
    unfold constOk at a
    split at a
    · rename_i i j e1 e2
      obtain ⟨val, h5, h6⟩ := T.const _ _ e2
      have := h6 h
      refine ⟨val, h5, .inl ?_⟩
      simp only [beq_iff_eq] at a
      subst a
      cases this
      exact ⟨_, _, e1, rfl⟩
    · rename_i i j e1 e2
      obtain ⟨val, h5, h6⟩ := T.const _ _ e2
      have := h6 h
      refine ⟨val, h5, .inr ?_⟩
      simp only [beq_iff_eq] at a
      subst a
      cases this
      exact ⟨_, _, e1, rfl⟩
    · cases a
theorem glue {G : String → Option MV} {Γ : String → Option MFun} (pg : PG prog w G Γ h mg mb) {s : Shared} (hs : s.heap = h) (d : Nat) {f : String} {fa : Addr} (hf : mg (Str.ofString f) = some (.ref fa)) {fd : MFun} (hΓ : Γ f = some fd) {a : Addr} {vs : List Value} {ns : List Int} (hp : s.heap.PlainList a vs.toArray) (hi : IntsAre vs ns)
    (hA : OkA d callerA) (hrun : calls G Γ d f [.ref a] [a] (fun v _ => v = .bool true) X0 (upd (fun _ => none) a (.list (ns.map .int)))) {E : Value → Shared → Prop} :
    wpAny (model prog w) callerA (call (.ref fa) [.ref a]) (fun v s' => v = .bool true ∧ (∀ b o, s.heap.get? b = some o → s'.heap.get? b = some o) ∧ s'.os = s.os ∧ s'.gens = s.gens) E s := by
  subst hs
  have hrep : RepVs s.heap (ns.map .int) vs := by
    clear hrun hp
    induction hi with
    | nil => trivial
    | cons i t hi ih => simp only [List.map_cons, RepVs]; exact ⟨by simp only [RepV]; exact ⟨_, rfl⟩, ih⟩
  have hfn : FnAt s.heap f fa := by
    obtain ⟨a', o, pm, code, doc, params, body, scope, tab, funs, e1, e2, e3, _⟩ := pg.fn f fd hΓ
    rw [hf] at e1; cases e1
    exact ⟨mg, pg.g, hf, o, _, e2, e3⟩
  refine wpAny_mono (Ym pg d f [.ref a] [.ref a] [a] _ s _ callerA E fa hA (fun b o e => ⟨e, ?_⟩) ?_ ?_ ?_ hfn hrun) (fun v s' h => ?_) fun _ _ e => e
  · unfold upd
    split
    · rename_i q; subst q; exact .inr (by simp)
    · exact .inl rfl
  · intro b o e
    unfold upd at e
    split at e
    · rename_i q; subst q; cases e; exact ⟨vs, hp, hrep⟩
    · cases e
  · intro b hb; simp at hb; subst hb; simp [upd]
  · simp [RepVs, RepV]
  · obtain ⟨mv, μ', rfl, hv, _, g⟩ := h
    simp only [RepV] at hv
    refine ⟨hv, fun b o e => (g.keep b o ?_ e).1, g.os, g.gens⟩
    unfold upd
    split
    · rename_i q; subst q; exact .inr (by simp)
    · exact .inl rfl
theorem plain_of {P : Params} {hh : Heap} {a : Addr} {xs : List PyData} {vs : List Value} (hW : Well P hh (.ref a) (ofPy (.list xs))) (hL : hh.IsList a vs.toArray) : hh.PlainList a vs.toArray := by
  rw [show ofPy (.list xs) = .list (ofPys xs) by simp [ofPy]] at hW
  generalize ofPys xs = ws at hW
  cases hW with
  | list ho _ =>
    obtain ⟨o, ho', hc, n, hd⟩ := hL
    rw [ho] at ho'
    cases ho'
    simp only [Data.seq.injEq] at hd
    exact ⟨_, by rw [ho, hd.1]⟩
end
end Mine
end
section
namespace Mine
open PySem
noncomputable def Ext (μ μ' : MH) : Prop := ∀ b o, μ b = some o → μ' b = some o
theorem Ext.refl {μ : MH} : Ext μ μ := fun _ _ e => e
theorem Ext.trans {μ μ₁ μ₂ : MH} (x : Ext μ μ₁) (y : Ext μ₁ μ₂) : Ext μ μ₂ := fun b o e => y b o (x b o e)
theorem Ext.upd {μ : MH} {a : Addr} {o : MO} (h : μ a = none) : Ext μ (upd μ a o) := fun b x e => by
  unfold Mine.upd; rw [if_neg (fun q => by rw [q, h] at e; cases e)]; exact e
theorem Xo {μ : MH} {a : Addr} {o : MO} : upd μ a o a = some o := by simp [upd]
theorem Yv {μ : MH} {a b : Addr} {o : MO} (h : b ≠ a) : upd μ a o b = μ b := by simp [upd, h]
theorem Kg {μ : MH} {a : Addr} {l : List MV} (h : μ a = some (.list l)) : lst μ a = some l := by simp [lst, h]
theorem Uc {α : Type} (l : List α) (lo hi : Option Int) : pick l lo hi none = (l.drop (lo.elim 0 (clipAt l.length))).take (hi.elim l.length (clipAt l.length) - lo.elim 0 (clipAt l.length)) := by
  unfold pick pickN
  rw [sliceBounds_plain]
  generalize (lo.elim 0 (clipAt l.length)) = a
  generalize (hi.elim l.length (clipAt l.length)) = b
  show List.filterMap _ (sliceRange (a : Int) (b : Int) 1) = _
  rw [Mine.sliceRange_one, Int.toNat_sub]
  have e : (List.range (b - a)).map (fun (k : Nat) => ((a : Int) + k).toNat) = (List.range (b - a)).map (a + ·) := List.map_congr_left fun k _ => Int.toNat_natCast (a + k)
  rw [e]
  have := pick_run l.toArray a (b - a)
  simpa only [List.getElem?_toArray] using this
theorem pick_one {α : Type} (l : List α) {k : Int} (hk : 0 ≤ k) : pick l (some k) (some (k + 1)) none = (l.drop k.toNat).take 1 := by
  obtain ⟨n, rfl⟩ := Int.eq_ofNat_of_zero_le hk
  rw [Uc]
  show List.take (clipAt l.length ((n : Int) + 1) - clipAt l.length (n : Int)) (List.drop (clipAt l.length (n : Int)) l) = List.take 1 (List.drop n l)
  rw [show ((n : Int) + 1) = ((n + 1 : Nat) : Int) from rfl, clipAt_nat, clipAt_nat]
  by_cases h : n < l.length
  · rw [Nat.min_eq_left (Nat.le_of_lt h), Nat.min_eq_left (show n + 1 ≤ l.length from h), Nat.add_sub_cancel_left]
  · have h := Nat.le_of_not_lt h
    rw [Nat.min_eq_right h, Nat.min_eq_right (Nat.le_succ_of_le h), List.drop_eq_nil_of_le (Nat.le_refl _), List.drop_eq_nil_of_le h, List.take_nil, List.take_nil]
theorem A4 {α : Type} (l : List α) {b : Int} (hb : 0 ≤ b) (hb' : b ≤ l.length) : pick l none (some b) none = l.take b.toNat := by
  obtain ⟨n, rfl⟩ := Int.eq_ofNat_of_zero_le hb
  rw [Uc]
  show List.take (clipAt l.length (n : Int) - 0) (List.drop 0 l) = List.take n l
  rw [clipAt_nat, Nat.min_eq_left (Int.ofNat_le.mp hb')]; rfl
theorem A5 {α : Type} (l : List α) {b : Int} (hb : 0 ≤ b) (hb' : b ≤ l.length) : pick l (some b) none none = l.drop b.toNat := by
  obtain ⟨n, rfl⟩ := Int.eq_ofNat_of_zero_le hb
  rw [Uc]
  show List.take (l.length - clipAt l.length (n : Int)) (List.drop (clipAt l.length (n : Int)) l) = List.drop n l
  rw [clipAt_nat, Nat.min_eq_left (Int.ofNat_le.mp hb')]
  exact List.take_of_length_le (by rw [List.length_drop]; exact Nat.le_refl _)
theorem pick_rev {α : Type} (l : List α) : pick l none none (some (-1)) = l.reverse := by
  unfold pick pickN
  rw [PySem.W.krv_bounds]
  simp only
  rw [PySem.W.krv_sliceRange, PySem.W.krv_range]
  rw [List.filterMap_reverse]
  congr 1
  exact List.filterMap_getElem?_range_length l
section
variable {G : String → Option MV} {Φ : CallSpec} {X : MX} {fz : List Addr} {vars : MVars} {Q : MQ} {μ : MH}
theorem X6 {i : Nat} : ev G Φ X (.var i) fz vars Q μ = (∃ v, vars i = some v ∧ Q v μ) := rfl
theorem Qr {g : String} : ev G Φ X (.glob g) fz vars Q μ = (∃ v, G g = some v ∧ Q v μ) := rfl
theorem Qu {i : Int} : ev G Φ X (.cint i) fz vars Q μ = (Q (.int i) μ) := rfl
theorem Qs {s : String} : ev G Φ X (.cstr s) fz vars Q μ = (Q (.str (Str.ofString s)) μ) := rfl
theorem Qg {b : Bool} : ev G Φ X (.cbool b) fz vars Q μ = (Q (.bool b) μ) := rfl
theorem Qf : ev G Φ X (.cnone) fz vars Q μ = (Q .none μ) := rfl
theorem Xa {op : BOp} {a b : ME} : ev G Φ X (.bin op a b) fz vars Q μ = (ev G Φ X a fz vars (fun x μ' => ev G Φ X b fz vars (fun y μ'' => binM fz op x y Q μ'') μ') μ) := rfl
theorem X7 {a : ME} : ev G Φ X (.neg a) fz vars Q μ = (ev G Φ X a fz vars (fun x μ' => ∃ i, x = .int i ∧ Q (.int (-i)) μ') μ) := rfl
theorem Qy {a : ME} : ev G Φ X (.not a) fz vars Q μ = (ev G Φ X a fz vars (fun x μ' => ∃ b, truthy μ' x = some b ∧ Q (.bool (!b)) μ') μ) := rfl
theorem Qz {l : List ME} : ev G Φ X (.and l) fz vars Q μ = (evAnd G Φ X l fz vars Q μ) := rfl
theorem Xj {l : List ME} : ev G Φ X (.or l) fz vars Q μ = (evOr G Φ X l fz vars Q μ) := rfl
theorem Qx {a : ME} {ops : List COp} {es : List ME} : ev G Φ X (.cmp a ops es) fz vars Q μ = (ev G Φ X a fz vars (fun x μ' => evCmp G Φ X es ops x fz vars Q μ') μ) := rfl
theorem X8 {c a b : ME} : ev G Φ X (.ite c a b) fz vars Q μ = (ev G Φ X c fz vars (fun x μ' => ∃ t, truthy μ' x = some t ∧ if t then ev G Φ X a fz vars Q μ' else ev G Φ X b fz vars Q μ') μ) := rfl
theorem X9 {a i : ME} : ev G Φ X (.idx a i) fz vars Q μ = (ev G Φ X a fz vars (fun x μ' => ev G Φ X i fz vars (fun y μ'' => ∃ v, idxM μ'' x y = some v ∧ Q v μ'') μ') μ) := rfl
theorem Qd {a lo hi st : ME} : ev G Φ X (.slice a lo hi st) fz vars Q μ = (ev G Φ X a fz vars (fun x μ' => ev G Φ X lo fz vars (fun l μ₁ => ev G Φ X hi fz vars (fun h μ₂ => ev G Φ X st fz vars (fun s μ₃ => sliceM fz x l h s Q μ₃) μ₂) μ₁) μ') μ) := rfl
theorem Qq {l : List ME} : ev G Φ X (.list l) fz vars Q μ = (evs G Φ X l fz vars (fun vs μ' => fits vs.length ∧ allocM fz μ' (.list vs) fun c μ'' => Q (.ref c) μ'') μ) := rfl
theorem Qc {l : List ME} : ev G Φ X (.tuple l) fz vars Q μ = (evs G Φ X l fz vars (fun vs μ' => fits vs.length ∧ Q (.tup vs) μ') μ) := rfl
theorem Qe {s : Bool} : ev G Φ X (.dict0 s) fz vars Q μ = (allocM fz μ (.idict []) fun c μ' => Q (.ref c) μ') := rfl
theorem Qv {f : String} {args : List ME} : ev G Φ X (.call f args) fz vars Q μ = (evs G Φ X args fz vars (fun vs μ' => Φ f vs fz Q X μ') μ) := rfl
theorem Xl {f : BI} {args : List ME} : ev G Φ X (.bi f args) fz vars Q μ = (evs G Φ X args fz vars (fun vs μ' => biM fz f vs Q μ') μ) := rfl
theorem Q4 {e : ME} {t : TY} : ev G Φ X (.isinst e t) fz vars Q μ = (ev G Φ X e fz vars (fun v μ' => ∃ b, isTy μ' t v = some b ∧ Q (.bool b) μ') μ) := rfl
theorem Qp {m : MM} {o : ME} {args : List ME} : ev G Φ X (.meth m o args) fz vars Q μ = (ev G Φ X o fz vars (fun x μ' => mmKind m μ' x = true ∧ evs G Φ X args fz vars (fun vs μ'' => methM fz m x vs Q μ'') μ') μ) := rfl
theorem Qt {elt : ME} {t : MT} {k : SK} {its ifs : List ME} : ev G Φ X (.comp elt t k its ifs) fz vars Q μ = (evs G Φ X its fz vars (fun vs μ' => ∃ src all, mkSrc k vs = some src ∧ src.items μ' = some all ∧ fits all.length ∧ compM fz t vars (fun vs F μ => evIfs G Φ X ifs (src.held ++ fz) vs F μ) (fun vs F μ => ev G Φ X elt (src.held ++ fz) vs F μ) Q all [] μ') μ) := rfl
theorem Ql {P : List MV → MH → Prop} : evs G Φ X [] fz vars P μ = (P [] μ) := rfl
theorem Qb {e : ME} {r : List ME} {P : List MV → MH → Prop} : evs G Φ X (e :: r) fz vars P μ = (ev G Φ X e fz vars (fun v μ' => evs G Φ X r fz vars (fun vs μ'' => P (v :: vs) μ'') μ') μ) := rfl
theorem Qa {e : ME} : evAnd G Φ X [e] fz vars Q μ = (ev G Φ X e fz vars (fun v μ' => Q v μ') μ) := rfl
theorem Q1 {e e' : ME} {r : List ME} : evAnd G Φ X (e :: e' :: r) fz vars Q μ = (ev G Φ X e fz vars (fun v μ' => ∃ b, truthy μ' v = some b ∧ if b then evAnd G Φ X (e' :: r) fz vars Q μ' else Q v μ') μ) := rfl
theorem Qh {e : ME} : evOr G Φ X [e] fz vars Q μ = (ev G Φ X e fz vars (fun v μ' => Q v μ') μ) := rfl
theorem Q5 {e e' : ME} {r : List ME} : evOr G Φ X (e :: e' :: r) fz vars Q μ = (ev G Φ X e fz vars (fun v μ' => ∃ b, truthy μ' v = some b ∧ if b then Q v μ' else evOr G Φ X (e' :: r) fz vars Q μ') μ) := rfl
theorem Q3 {e : ME} {op : COp} {x : MV} : evCmp G Φ X [e] [op] x fz vars Q μ = (ev G Φ X e fz vars (fun y μ' => ∃ b, cmpM op μ' x y = some b ∧ Q (.bool b) μ') μ) := rfl
theorem Q0 {e e' : ME} {r : List ME} {op op' : COp} {ops : List COp} {x : MV} : evCmp G Φ X (e :: e' :: r) (op :: op' :: ops) x fz vars Q μ = (ev G Φ X e fz vars (fun y μ' => ∃ b, cmpM op μ' x y = some b ∧ if b then evCmp G Φ X (e' :: r) (op' :: ops) y fz vars Q μ' else Q (.bool false) μ') μ) := rfl
theorem Q9 {F : Bool → MH → Prop} : evIfs G Φ X [] fz vars F μ = (F true μ) := rfl
theorem Q8 {e : ME} {F : Bool → MH → Prop} : evIfs G Φ X [e] fz vars F μ = (ev G Φ X e fz vars (fun v μ' => ∃ b, truthy μ' v = some b ∧ F b μ') μ) := rfl
theorem Q7 {i : Nat} {e : ME} {R : MFlow → MVars → MH → Prop} : ex G Φ X (.assign i e) fz vars R μ = (ev G Φ X e fz vars (fun v μ' => R .next (setv vars i v) μ') μ) := rfl
theorem Q6 {o i e : ME} {R : MFlow → MVars → MH → Prop} : ex G Φ X (.setidx o i e) fz vars R μ = (ev G Φ X e fz vars (fun v μ₁ => ev G Φ X o fz vars (fun x μ₂ => ev G Φ X i fz vars (fun y μ₃ => setM fz x y v (fun μ₄ => R .next vars μ₄) μ₃) μ₂) μ₁) μ) := rfl
theorem Qo {e : ME} {R : MFlow → MVars → MH → Prop} : ex G Φ X (.expr e) fz vars R μ = (ev G Φ X e fz vars (fun _ μ' => R .next vars μ') μ) := rfl
theorem X2 {e : ME} {R : MFlow → MVars → MH → Prop} : ex G Φ X (.ret e) fz vars R μ = (ev G Φ X e fz vars (fun v μ' => R (.ret v) vars μ') μ) := rfl
theorem Qm {R : MFlow → MVars → MH → Prop} : ex G Φ X (.ret0) fz vars R μ = (R (.ret .none) vars μ) := rfl
theorem X3 {c : ME} {a b : List MS} {R : MFlow → MVars → MH → Prop} : ex G Φ X (.ite c a b) fz vars R μ = (ev G Φ X c fz vars (fun v μ' => ∃ t, truthy μ' v = some t ∧ if t then exs G Φ X a fz vars R μ' else exs G Φ X b fz vars R μ') μ) := rfl
theorem X4 {t : MT} {k : SK} {its : List ME} {body : List MS} {R : MFlow → MVars → MH → Prop} : ex G Φ X (.for t k its body) fz vars R μ = (evs G Φ X its fz vars (fun vs μ' => ∃ src all, mkSrc k vs = some src ∧ src.items μ' = some all ∧ fits all.length ∧ loopM t (fun vs F μ => exs G Φ X body (src.held ++ fz) vs F μ) R all vars μ') μ) := rfl
theorem Qn {R : MFlow → MVars → MH → Prop} : ex G Φ X (.pass) fz vars R μ = (R .next vars μ) := rfl
end
section
variable {fz : List Addr} {Q : MQ} {μ : MH}
theorem Xb {x y : Int} : binM fz .add (.int x) (.int y) Q μ = Q (.int (x + y)) μ := rfl
theorem X1 {x y : Int} : binM fz .sub (.int x) (.int y) Q μ = Q (.int (x - y)) μ := rfl
theorem b_mul {x y : Int} : binM fz .mul (.int x) (.int y) Q μ = ((small x ∨ small y) ∧ Q (.int (x * y)) μ) := rfl
theorem b_fdiv {x y : Int} : binM fz .fdiv (.int x) (.int y) Q μ = ((y ≠ 0 ∧ small y) ∧ Q (.int (x.fdiv y)) μ) := rfl
theorem b_mod {x y : Int} : binM fz .mod (.int x) (.int y) Q μ = (y ≠ 0 ∧ Q (.int (x.fmod y)) μ) := rfl
theorem Xh {x y : Int} (h : -1000000000000 ≤ y ∧ y ≤ 1000000000000) : binM fz .mul (.int x) (.int y) Q μ = Q (.int (x * y)) μ := by
  rw [b_mul]; simp only [eq_iff_iff, and_iff_right_iff_imp]; exact fun _ => .inr ⟨by lia, by exact Int.lt_of_le_of_lt (And.right (by assumption)) (by decide)⟩
theorem Xk {x y : Int} (h : -1000000000000 ≤ x ∧ x ≤ 1000000000000) : binM fz .mul (.int x) (.int y) Q μ = Q (.int (x * y)) μ := by
  rw [b_mul]; simp only [eq_iff_iff, and_iff_right_iff_imp]; exact fun _ => .inl ⟨by lia, by exact Int.lt_of_le_of_lt (And.right (by assumption)) (by decide)⟩
theorem Xc {x y : Int} (h : 0 < y ∧ y ≤ 1000000000000) : binM fz .fdiv (.int x) (.int y) Q μ = Q (.int (x.fdiv y)) μ := by
  rw [b_fdiv]; simp only [eq_iff_iff, and_iff_right_iff_imp]; exact fun _ => ⟨by lia, by lia, by exact Int.lt_of_le_of_lt (And.right (by assumption)) (by decide)⟩
theorem Xe {x y : Int} (h : 0 < y) : binM fz .mod (.int x) (.int y) Q μ = Q (.int (x.fmod y)) μ := by
  rw [b_mod]; simp only [eq_iff_iff, and_iff_right_iff_imp]; exact fun _ => by lia
theorem Xu {n : Nat} (h : n ≤ 100000) : fits n = True := by simp only [eq_iff_iff, iff_true]; unfold fits; exact Nat.le_trans (by assumption) (by decide)
theorem b_adds {x y : Str} : binM fz .add (.str x) (.str y) Q μ = (fits (x.length + y.length) ∧ Q (.str (x ++ y)) μ) := rfl
theorem b_addl {a b : Addr} {x y : List MV} (h1 : μ a = some (.list x)) (h2 : μ b = some (.list y)) (hf : fits (x.length + y.length)) (h : ∀ c, μ c = none → c ∉ fz → Q (.ref c) (upd μ c (.list (x ++ y)))) : binM fz .add (.ref a) (.ref b) Q μ :=
  ⟨x, y, Kg h1, Kg h2, hf, h⟩
theorem Xf {x y : Int} : cmpM .lt μ (.int x) (.int y) = some (decide (x < y)) := rfl
theorem Xm {x y : Int} : cmpM .le μ (.int x) (.int y) = some (decide (x ≤ y)) := rfl
theorem Xg {x y : Int} : cmpM .gt μ (.int x) (.int y) = some (decide (x > y)) := rfl
theorem Xi {x y : Int} : cmpM .ge μ (.int x) (.int y) = some (decide (x ≥ y)) := rfl
theorem Xr {x y : Int} : cmpM .eq μ (.int x) (.int y) = some (x == y) := by simp [cmpM, eqM, eqD, deep, PyData.eqv]
theorem Xs {x y : Int} : cmpM .ne μ (.int x) (.int y) = some (!(x == y)) := by simp [cmpM, eqM, eqD, deep, PyData.eqv]
theorem Jq {x y : Str} (hx : PyData.strOk x = true) (hy : PyData.strOk y = true) : cmpM .eq μ (.str x) (.str y) = some (x == y) := by simp [cmpM, eqM, eqD, deep, PyData.eqv, hx, hy]
theorem Qk {b : Bool} : truthy μ (.bool b) = some b := rfl
theorem X5 {i : Int} : truthy μ (.int i) = some (decide (i ≠ 0)) := rfl
theorem Xn {vars : MVars} {i : Nat} {v : MV} : setv vars i v i = some v := by simp [setv]
theorem Xd {vars : MVars} {i j : Nat} {v : MV} (h : j ≠ i) : setv vars i v j = vars j := by simp [setv, h]
theorem Qi {x y : Int} : biM fz .min2 [.int x, .int y] Q μ = Q (.int (min x y)) μ := rfl
theorem Qj {x y : Int} : biM fz .max2 [.int x, .int y] Q μ = Q (.int (max x y)) μ := rfl
theorem Qw {b : Bool} : biM fz .int [.bool b] Q μ = Q (.int (if b then 1 else 0)) μ := rfl
theorem Q2 {i : Nat} {v : MV} {vars : MVars} : bindT (.one i) v vars = some (setv vars i v) := rfl
theorem Kk {p : Addr} {k : Int} {l : List MV} (h : μ p = some (.list l)) (hl : l.length ≤ 2 ^ 20) : idxM μ (.ref p) (.int k) = atI l k := by simp [idxM, idxO, intO, h, hl]
theorem i_dict {p : Addr} {k : Int} {l : List (Int × MV)} (h : μ p = some (.idict l)) : idxM μ (.ref p) (.int k) = lookI l k := by simp [idxM, idxO, intO, h]
theorem i_tup {k : Int} {l : List MV} (hl : l.length ≤ 2 ^ 20) : idxM μ (.tup l) (.int k) = atI l k := by simp [idxM, intO, hl]
theorem i_str {k : Int} {x : Str} (hl : x.length ≤ 2 ^ 20) : idxM μ (.str x) (.int k) = (atI x.cps.toList k).map fun c => .str ⟨#[c]⟩ := by simp [idxM, intO, hl]
theorem Au {p : Addr} {l : List MV} {lo hi st : MV} {a b s : Option Int} (h1 : partI lo = some a) (h2 : partI hi = some b) (h3 : partI st = some s) (h4 : s ≠ some 0) (h : μ p = some (.list l)) (hf : fits l.length) (hq : ∀ c, μ c = none → c ∉ fz → Q (.ref c) (upd μ c (.list (pick l a b s)))) : sliceM fz (.ref p) lo hi st Q μ :=
  ⟨a, b, s, h1, h2, h3, h4, l, Kg h, hf, hq⟩
theorem At {x : Str} {lo hi st : MV} {a b s : Option Int} (h1 : partI lo = some a) (h2 : partI hi = some b) (h3 : partI st = some s) (h4 : s ≠ some 0) (hf : fits x.length) (hq : Q (.str ⟨(pick x.cps.toList a b s).toArray⟩) μ) : sliceM fz (.str x) lo hi st Q μ :=
  ⟨a, b, s, h1, h2, h3, h4, hf, hq⟩
theorem set_list {a : Addr} {l : List MV} {k : Int} {v : MV} {Q : MH → Prop} (h : μ a = some (.list l)) (hf : a ∉ fz) (hl : fits l.length) (h0 : 0 ≤ k) (h1 : k < l.length) (hq : Q (upd μ a (.list (l.set k.toNat v)))) : setM fz (.ref a) (.int k) v Q μ := by
  refine ⟨hf, ?_⟩
  rw [h]
  exact ⟨hl, _, by unfold setAt; rw [if_pos h0, if_pos (by first|exact dn hd rfl|exact dl hd rfl|simp [*])], hq⟩
theorem Ji {a : Addr} {l : List (Int × MV)} {k : Int} {v : MV} {Q : MH → Prop} (h : μ a = some (.idict l)) (hf : a ∉ fz) (hl : fits l.length) (hq : Q (upd μ a (.idict (putI l k v)))) : setM fz (.ref a) (.int k) v Q μ := by
  refine ⟨hf, ?_⟩
  rw [h]
  exact ⟨hl, hq⟩
theorem Nn {p : Addr} {l : List MV} (h : μ p = some (.list l)) (hf : fits l.length) (hq : Q (.int l.length) μ) : biM fz .len [.ref p] Q μ := by
  show lenO (μ p) fun n => Q (.int n) μ
  rw [h]; exact ⟨hf, hq⟩
theorem bi_len_str {x : Str} : biM fz .len [.str x] Q μ = (fits x.length ∧ Q (.int x.length) μ) := rfl
end
theorem mk_list {μ : MH} {a : Addr} {l : List MV} (h : μ a = some (.list l)) : isListO (μ a) = true := by rw [h]; rfl
theorem mk_idict {μ : MH} {a : Addr} {l : List (Int × MV)} (h : μ a = some (.idict l)) : isDictO (μ a) = true := by rw [h]; rfl
theorem Ap {μ : MH} {fz : List Addr} {Q : MQ} {a : Addr} {l : List (Int × MV)} (h : μ a = some (.idict l)) (hq : fits l.length ∧ ∀ c, μ c = none → c ∉ fz → Q (.ref c) (upd μ c (.idict l))) : biM fz .dict [.ref a] Q μ := by
  show dictO fz (μ a) Q μ
  rw [h]; exact hq
theorem bi_dict_l {μ : MH} {fz : List Addr} {Q : MQ} {a : Addr} {l : List MV} (h : μ a = some (.list l)) (hq : ∃ ps, pairsI l = some ps ∧ fits l.length ∧ ∀ c, μ c = none → c ∉ fz → Q (.ref c) (upd μ c (.idict (ps.foldl (fun d kv => putI d kv.1 kv.2) [])))) : biM fz .dict [.ref a] Q μ := by
  show dictO fz (μ a) Q μ
  rw [h]; exact hq
theorem in_dict {μ : MH} {u : Addr} {l : List (Int × MV)} {k : Int} (h : μ u = some (.idict l)) : inM μ (.int k) (.ref u) = some ((lookI l k).isSome) := by
  show inO μ u (.int k) (μ u) = _
  rw [h]; rfl
theorem in_list {μ : MH} {u : Addr} {l : List MV} {a : MV} {xs : List PyData} {d : PyData} (h : μ u = some (.list l)) (h1 : deep μ 9 (.ref u) = some (.list xs)) (h2 : deep μ 9 a = some d) : inM μ a (.ref u) = some (xs.any fun y => PyData.eqv y d) := by
  show inO μ u a (μ u) = _
  rw [h]
  show anyL (deep μ 9 (.ref u)) (deep μ 9 a) = _
  rw [h1, h2]; rfl
theorem sm {i : Int} (h1 : -1000000000000 ≤ i) (h2 : i ≤ 1000000000000) : small i := ⟨by lia, by exact Int.lt_of_le_of_lt (by assumption) (by decide)⟩
theorem fit {n : Nat} (h : n ≤ 100000) : fits n := by unfold fits; exact Nat.le_trans (by assumption) (by decide)
theorem dn {k d m : Nat} (h : m ≤ d) (e : Nat.ble (k + 1) m = true) : k ≤ d - 1 := Nat.le_sub_of_add_le (Nat.le_trans (Nat.le_of_ble_eq_true e) h)
theorem dl {k d m : Nat} (h : m ≤ d) (e : Nat.ble k m = true) : k ≤ d := Nat.le_trans (Nat.le_of_ble_eq_true e) h
theorem nei {j i m : Nat} (h : m ≤ i) (e : Nat.ble (j + 1) m = true) : j ≠ i := Nat.ne_of_lt (Nat.le_trans (Nat.le_of_ble_eq_true e) h)
theorem Y3 {μ : MH} {a c : Addr} {o : MO} (h : μ a = some o) (hc : μ c = none) : a ≠ c := fun q => by rw [q, hc] at h; cases h
variable {G : String → Option MV} {Γ : String → Option MFun}
theorem all_of {P : Int → Bool} {l : List Int} {x : Int} (h : x ∈ l) (a : l.all P = true) : P x = true := List.all_eq_true.mp a x h
noncomputable def kr (G : String → Option MV) (Φ : CallSpec) (X : MX) (r : List MS) (fz : List Addr) (R : MFlow → MVars → MH → Prop) : MFlow → MVars → MH → Prop := fun fl vars' μ' => match fl with | .next => exs G Φ X r fz vars' R μ' | fl => R fl vars' μ'
noncomputable def kl (L : MVars → MH → Prop) (R : MFlow → MVars → MH → Prop) : MFlow → MVars → MH → Prop := fun fl vars' μ' => match fl with | .next | .cont => L vars' μ' | .brk => R .next vars' μ' | .ret v => R (.ret v) vars' μ'
noncomputable def kz (Q : MQ) : MFlow → MVars → MH → Prop := fun fl _ μ' => match fl with | .ret v => Q v μ' | .next => Q .none μ' | _ => False
theorem kr0 {Φ : CallSpec} {X : MX} {r : List MS} {fz : List Addr} {vars : MVars} {R : MFlow → MVars → MH → Prop} {μ : MH} : kr G Φ X r fz R .next vars μ = exs G Φ X r fz vars R μ := rfl
theorem kr1 {Φ : CallSpec} {X : MX} {r : List MS} {fz : List Addr} {vars : MVars} {R : MFlow → MVars → MH → Prop} {μ : MH} {v : MV} : kr G Φ X r fz R (.ret v) vars μ = R (.ret v) vars μ := rfl
theorem kl0 {L : MVars → MH → Prop} {R : MFlow → MVars → MH → Prop} {vars : MVars} {μ : MH} : kl L R .next vars μ = L vars μ := rfl
theorem kl1 {L : MVars → MH → Prop} {R : MFlow → MVars → MH → Prop} {vars : MVars} {μ : MH} {v : MV} : kl L R (.ret v) vars μ = R (.ret v) vars μ := rfl
theorem kz0 {Q : MQ} {vars : MVars} {μ : MH} {v : MV} : kz Q (.ret v) vars μ = Q v μ := rfl
theorem B4 {t : MT} {B : MVars → (MFlow → MVars → MH → Prop) → MH → Prop} {R : MFlow → MVars → MH → Prop} {vars : MVars} {μ : MH} : loopM t B R [] vars μ = R .next vars μ := rfl
theorem Ju {t : MT} {B : MVars → (MFlow → MVars → MH → Prop) → MH → Prop} {R : MFlow → MVars → MH → Prop} {v : MV} {l : List MV} {vars : MVars} {μ : MH} : loopM t B R (v :: l) vars μ = ∃ vars', bindT t v vars = some vars' ∧ B vars' (kl (loopM t B R l) R) μ := rfl
theorem seq {Φ : CallSpec} {X : MX} {st : MS} {r : List MS} {fz : List Addr} {vars : MVars} {R : MFlow → MVars → MH → Prop} {μ : MH} (h : ex G Φ X st fz vars (kr G Φ X r fz R) μ) : exs G Φ X (st :: r) fz vars R μ := h
theorem J3 {Φ : CallSpec} {X : MX} {fz : List Addr} {vars : MVars} {R : MFlow → MVars → MH → Prop} {μ : MH} (h : R .next vars μ) : exs G Φ X [] fz vars R μ := by
  exact h
theorem seqk {Φ : CallSpec} {X : MX} {fz : List Addr} {vars : MVars} {R : MFlow → MVars → MH → Prop} {μ : MH} (h : R .next vars μ) : kr G Φ X [] fz R .next vars μ := h
theorem gen {Φ : CallSpec} {X : MX} {r : List MS} {fz : List Addr} {vars : MVars} {R : MFlow → MVars → MH → Prop} {μ μ₁ : MH} (x : Ext μ μ₁) (h : ∀ μ', Ext μ μ' → exs G Φ X r fz vars R μ') : exs G Φ X r fz vars R μ₁ := h μ₁ x
theorem Xx {d : Nat} {f : String} {vs : List MV} {fz : List Addr} {Q : MQ} {X : MX} {μ : MH} {fd : MFun} (h : Γ f = some fd) (hn : vs.length = fd.n) (hd : 0 < d)
    (hx : exs G (calls G Γ (d - 1)) X fd.body fz (args0 vs) (kz Q) μ) : calls G Γ d f vs fz Q X μ := by
  cases d with
  | zero => lia
  | succ d => exact ⟨fd, h, hn, hx⟩
noncomputable def evB (G : String → Option MV) (Φ : CallSpec) (e : ME) (fz : List Addr) (vars : MVars) (F : Bool → MH → Prop) (μ : MH) : Prop := ev G Φ X0 e fz vars (fun v μ' => ∃ t, truthy μ' v = some t ∧ F t μ') μ
section
variable {Φ : CallSpec} {fz : List Addr} {vars : MVars} {F : Bool → MH → Prop} {μ : MH}
theorem Yi {c : ME} {a b : List MS} {R : MFlow → MVars → MH → Prop} (h : evB G Φ c fz vars (fun t μ' => if t then exs G Φ X0 a fz vars R μ' else exs G Φ X0 b fz vars R μ') μ) : ex G Φ X0 (.ite c a b) fz vars R μ := by
  exact h
theorem Oz {e : ME} (h : evB G Φ e fz vars F μ) : evB G Φ (.and [e]) fz vars F μ := by
  exact h
theorem Bx {e e' : ME} {r : List ME} (h : evB G Φ e fz vars (fun t μ' => if t then evB G Φ (.and (e' :: r)) fz vars F μ' else F false μ') μ) : evB G Φ (.and (e :: e' :: r)) fz vars F μ := by
  unfold evB at h ⊢
  rw [Qz, Q1]
  have q : (fun (v : MV) (μ' : MH) => ∃ t, truthy μ' v = some t ∧ if t = true then evAnd G Φ X0 (e' :: r) fz vars (fun v μ' => ∃ t, truthy μ' v = some t ∧ F t μ') μ' else F false μ') =
      (fun v μ' => ∃ b, truthy μ' v = some b ∧ if b = true then evAnd G Φ X0 (e' :: r) fz vars (fun v μ' => ∃ t, truthy μ' v = some t ∧ F t μ') μ' else ∃ t, truthy μ' v = some t ∧ F t μ') := by
    funext v μ'
    apply propext
    constructor
    · rintro ⟨b, hb, hh⟩
      refine ⟨b, hb, ?_⟩
      cases b
      · rw [if_neg (by simp)] at hh ⊢; exact ⟨_, hb, hh⟩
      · rw [if_pos rfl] at hh ⊢; exact hh
    · rintro ⟨b, hb, hh⟩
      refine ⟨b, hb, ?_⟩
      cases b
      · rw [if_neg (by simp)] at hh ⊢; obtain ⟨b', hb', hh⟩ := hh; rw [hb] at hb'; cases hb'; exact hh
      · rw [if_pos rfl] at hh ⊢; exact hh
  exact Eq.mp (congrArg (fun z => ev G Φ X0 e fz vars z μ) q) h
theorem Ze {e : ME} (h : evB G Φ e fz vars F μ) : evB G Φ (.or [e]) fz vars F μ := by
  exact h
theorem Ye {e e' : ME} {r : List ME} (h : evB G Φ e fz vars (fun t μ' => if t then F true μ' else evB G Φ (.or (e' :: r)) fz vars F μ') μ) : evB G Φ (.or (e :: e' :: r)) fz vars F μ := by
  unfold evB at h ⊢
  rw [Xj, Q5]
  have q : (fun (v : MV) (μ' : MH) => ∃ t, truthy μ' v = some t ∧ if t = true then F true μ' else evOr G Φ X0 (e' :: r) fz vars (fun v μ' => ∃ t, truthy μ' v = some t ∧ F t μ') μ') =
      (fun v μ' => ∃ b, truthy μ' v = some b ∧ if b = true then (∃ t, truthy μ' v = some t ∧ F t μ') else evOr G Φ X0 (e' :: r) fz vars (fun v μ' => ∃ t, truthy μ' v = some t ∧ F t μ') μ') := by
    funext v μ'
    apply propext
    constructor
    · rintro ⟨b, hb, hh⟩
      refine ⟨b, hb, ?_⟩
      cases b
      · rw [if_neg (by simp)] at hh ⊢; exact hh
      · rw [if_pos rfl] at hh ⊢; exact ⟨_, hb, hh⟩
    · rintro ⟨b, hb, hh⟩
      refine ⟨b, hb, ?_⟩
      cases b
      · rw [if_neg (by simp)] at hh ⊢; exact hh
      · rw [if_pos rfl] at hh ⊢; obtain ⟨b', hb', hh⟩ := hh; rw [hb] at hb'; cases hb'; exact hh
  exact Eq.mp (congrArg (fun z => ev G Φ X0 e fz vars z μ) q) h
theorem Y7 {e : ME} (h : evB G Φ e fz vars (fun t μ' => F (!t) μ') μ) : evB G Φ (.not e) fz vars F μ := by
  unfold evB at h ⊢
  rw [Qy]
  have q : (fun (x : MV) (μ' : MH) => ∃ b, truthy μ' x = some b ∧ ∃ t, truthy μ' (MV.bool !b) = some t ∧ F t μ') = (fun x μ' => ∃ b, truthy μ' x = some b ∧ F (!b) μ') := by
    funext v μ'
    simp [truthy]
  rw [q]; exact h
theorem Y2 {a b : ME} {op : COp} (h : ev G Φ X0 a fz vars (fun x μ₁ => ev G Φ X0 b fz vars (fun y μ₂ => ∃ t, cmpM op μ₂ x y = some t ∧ F t μ₂) μ₁) μ) : evB G Φ (.cmp a [op] [b]) fz vars F μ := by
  unfold evB
  rw [Qx]
  simp only [Q3, Q0, Qk, Option.some.injEq, exists_eq_left']
  exact h
theorem Yr {e : ME} {ty : TY} (h : ev G Φ X0 e fz vars (fun v μ' => ∃ b, isTy μ' ty v = some b ∧ F b μ') μ) : evB G Φ (.isinst e ty) fz vars F μ := by
  unfold evB
  rw [Q4]
  simp only [Qk, Option.some.injEq, exists_eq_left']
  exact h
theorem Jp {f : String} {args : List ME} (h : evs G Φ X0 args fz vars (fun vs μ' => Φ f vs fz (fun v μ'' => ∃ t, truthy μ'' v = some t ∧ F t μ'') X0 μ') μ) : evB G Φ (.call f args) fz vars F μ := by
  exact h
theorem evB_bi {f : BI} {args : List ME} (h : evs G Φ X0 args fz vars (fun vs μ' => biM fz f vs (fun v μ'' => ∃ t, truthy μ'' v = some t ∧ F t μ'') μ') μ) : evB G Φ (.bi f args) fz vars F μ := by
  exact h
theorem evB_var {i : Nat} {v : MV} {t : Bool} (hv : vars i = some v) (ht : truthy μ v = some t) (h : F t μ) : evB G Φ (.var i) fz vars F μ := by
  exact ⟨v, hv, t, ht, h⟩
theorem ev_comp1 {elt it : ME} {t : MT} {k : SK} {ifs : List ME} {X : MX} {Q : MQ} (h : ev G Φ X it fz vars (fun v μ' => ∃ src all, mkSrc k [v] = some src ∧ src.items μ' = some all ∧ fits all.length ∧
      compM fz t vars (fun vs F μ => evIfs G Φ X ifs (src.held ++ fz) vs F μ) (fun vs F μ => ev G Φ X elt (src.held ++ fz) vs F μ) Q all [] μ') μ) : ev G Φ X (.comp elt t k [it] ifs) fz vars Q μ := by
  exact h
theorem Y0 {i : Nat} {v : MV} {X : MX} {Q : MQ} (hv : vars i = some v) (h : Q v μ) : ev G Φ X (.var i) fz vars Q μ := ⟨v, hv, h⟩
theorem evs_one {e : ME} {X : MX} {Q : List MV → MH → Prop} (h : ev G Φ X e fz vars (fun v μ' => Q [v] μ') μ) : evs G Φ X [e] fz vars Q μ := by
  exact h
theorem evB_cmp2 {a b c : ME} {op op' : COp} (h : ev G Φ X0 a fz vars (fun x μ₁ => ev G Φ X0 b fz vars (fun y μ₂ => ∃ t, cmpM op μ₂ x y = some t ∧ if t then ev G Φ X0 c fz vars (fun z μ₃ => ∃ t, cmpM op' μ₃ y z = some t ∧ F t μ₃) μ₂ else F false μ₂) μ₁) μ) : evB G Φ (.cmp a [op, op'] [b, c]) fz vars F μ := by
  unfold evB
  rw [Qx]
  simp only [Q3, Q0, Qk, Option.some.injEq, exists_eq_left']
  exact h
end
end Mine
end
section
namespace Mine
open PySem
noncomputable def Um : MS := .ret (.idx (.bin .add (.slice (.var 0) (.var 1) (.bin .add (.var 1) (.cint 1)) .cnone) (.list [(.cint 0)])) (.cint 0))
noncomputable def Jm : MFun := ⟨2, [Um]⟩
noncomputable def Ja : MS := .assign 2 (.cstr "abcdefghijklmnopqrstuvwxy")
noncomputable def J9 : MS := .assign 3 (.list [])
noncomputable def Yt : MS := .assign 5 (.bin .add (.bin .fdiv (.var 0) (.cint 2)) (.bin .mul (.bin .mul (.var 4) (.cint 48271)) (.bin .mod (.var 0) (.cint 2))))
noncomputable def Ys : MS := .assign 6 (.meth .join (.cstr "") [(.comp (.idx (.var 2) (.bin .mod (.bin .add (.bin .fdiv (.var 5) (.cint 7)) (.bin .mul (.cint 6) (.var 8))) (.cint 25))) (.one 8) .range [(.bin .mod (.var 5) (.cint 7))] [])])
noncomputable def Yb : MS := .assign 7 (.bin .mod (.bin .fdiv (.var 5) (.cint 175)) (.bin .add (.bi .len [(.var 6)]) (.cint 1)))
noncomputable def Ya : MS := .expr (.meth .append (.var 3) [(.bin .add (.bin .add (.bin .add (.slice (.var 6) .cnone (.var 7) .cnone) (.cstr "z")) (.idx (.var 2) (.var 4))) (.slice (.var 6) (.var 7) .cnone .cnone))])
noncomputable def J8 : MS := .for (.one 4) .range [(.var 1)] [Yt, Ys, Yb, Ya]
noncomputable def Zk : MS := .setidx (.var 3) (.cint 1) (.slice (.idx (.var 3) (.cint 0)) .cnone .cnone (.neg (.cint 1)))
noncomputable def J7 : MS := .ite (.and [(.cmp (.bin .mod (.var 0) (.cint 5)) [.eq] [(.cint 3)]), (.cmp (.slice (.idx (.var 3) (.cint 0)) .cnone .cnone (.neg (.cint 1))) [.notin] [(.var 3)])]) [Zk] []
noncomputable def Yd : MS := .ret (.var 3)
noncomputable def Zh : MFun := ⟨2, [Ja, J9, J8, J7, Yd]⟩
noncomputable def Jf : MS := .assign 2 (.bin .mod (.bin .mul (.var 2) (.cint 48271)) (.cint 2147483647))
noncomputable def Je : MS := .assign 4 (.bi .min2 [(.cint 1000000), (.bin .add (.var 1) (.bin .mod (.bin .fdiv (.var 2) (.cint 24)) (.idx (.list [(.cint 10), (.cint 900000)]) (.bi .int [(.cmp (.bin .mod (.bin .fdiv (.var 2) (.cint 11520)) (.cint 5)) [.eq] [(.cint 1)])]))))])
noncomputable def Jd : MS := .assign 5 (.bi .min2 [(.cint 1000000), (.bin .add (.var 4) (.idx (.list [(.cint 0), (.cint 1), (.cint 3), (.cint 9), (.cint 35), (.cint 700), (.cint 1000000), (.cint 9)]) (.bin .mod (.bin .fdiv (.var 2) (.cint 240)) (.cint 8))))])
noncomputable def Jc : MS := .assign 6 (.idx (.var 0) (.bin .mod (.bin .fdiv (.var 2) (.cint 8)) (.cint 3)))
noncomputable def Zn : MS := .ret (.tuple [(.cstr "undo"), (.bin .add (.cint 1) (.bin .mod (.bin .fdiv (.var 2) (.cint 8)) (.bin .sub (.var 3) (.cint 1))))])
noncomputable def Jb : MS := .ite (.and [(.cmp (.bin .mod (.var 2) (.cint 8)) [.gt] [(.cint 5)]), (.cmp (.var 3) [.gt] [(.cint 1)])]) [Zn] []
noncomputable def Zm : MS := .ret (.tuple [(.cstr "clear"), (.var 6), (.var 4), (.var 5)])
noncomputable def Zd : MS := .ite (.cmp (.bin .mod (.var 2) (.cint 8)) [.eq] [(.cint 3)]) [Zm] []
noncomputable def Zl : MS := .ret (.tuple [(.cstr "like"), (.var 6), (.var 4), (.var 5), (.idx (.var 0) (.bin .mod (.bin .fdiv (.var 2) (.cint 1920)) (.cint 3)))])
noncomputable def Zc : MS := .ite (.cmp (.bin .mod (.var 2) (.cint 8)) [.isin] [(.tuple [(.cint 4), (.cint 5)])]) [Zl] []
noncomputable def Zb : MS := .ret (.tuple [(.cstr "tell"), (.var 6), (.var 4), (.var 5), (.idx (.list [(.cint 1), (.cint 2), (.cint 1), (.cint 0), (.neg (.cint 1)), (.bin .sub (.bin .mod (.var 2) (.cint 2000000001)) (.cint 1000000000))]) (.bin .mod (.bin .fdiv (.var 2) (.cint 1920)) (.cint 6)))])
noncomputable def Zi : MFun := ⟨4, [Jf, Je, Jd, Jc, Jb, Zd, Zc, Zb]⟩
noncomputable def K8 : MS := .ret (.idx (.list [(.cint 0), (.cint 7), (.cint 300), (.cint 999982)]) (.bin .mod (.call "_law_of" [(.var 0), (.cint 0)]) (.cint 4)))
noncomputable def J0 : MFun := ⟨1, [K8]⟩
noncomputable def K7 : MS := .assign 2 (.call "_law_names" [(.call "_law_of" [(.var 0), (.cint 1)]), (.cint 3)])
noncomputable def K6 : MS := .assign 3 (.bin .add (.cint 1) (.bin .mod (.bin .fdiv (.call "_law_of" [(.var 0), (.cint 0)]) (.cint 4)) (.cint 3)))
noncomputable def K5 : MS := .assign 4 (.list [])
noncomputable def Z2 : MS := .assign 6 (.bin .add (.cint 1) (.bin .mul (.var 5) (.var 3)))
noncomputable def Z1 : MS := .expr (.meth .append (.var 4) [(.tuple [(.var 6), (.call "_law_entry" [(.var 2), (.call "_law_base" [(.var 0)]), (.bin .add (.idx (.var 0) (.bin .add (.cint 4) (.var 5))) (.bin .mul (.cint 7) (.var 5))), (.var 6)])])])
noncomputable def K4 : MS := .for (.one 5) .range [(.bi .min2 [(.var 1), (.bin .sub (.bi .len [(.var 0)]) (.cint 4))])] [Z2, Z1]
noncomputable def K3 : MS := .assign 7 (.bin .mod (.bin .fdiv (.call "_law_of" [(.var 0), (.cint 0)]) (.cint 12)) (.bin .add (.bi .len [(.var 4)]) (.cint 1)))
noncomputable def K2 : MS := .ret (.bi .dict [(.bin .add (.slice (.var 4) (.var 7) .cnone .cnone) (.slice (.var 4) .cnone (.var 7) .cnone))])
noncomputable def Uo : MFun := ⟨2, [K7, K6, K5, K4, K3, K2]⟩
noncomputable def J6 : MS := .ret (.and [(.isinst (.var 0) .int), (.not (.isinst (.var 0) .bool))])
noncomputable def Nj : MFun := ⟨1, [J6]⟩
end Mine
end
section
namespace Mine
open PySem
variable {G : String → Option MV} {Γ : String → Option MFun}
theorem U1 {α : Type} {l : List α} {k : Int} (h : 0 ≤ k) : atI l k = l[k.toNat]? := by simp [atI, h]
noncomputable def at0 (ns : List Int) (k : Int) : Int := ns.getD k.toNat 0
noncomputable def sel (l : List Int) (k : Int) : Int := l.getD k.toNat 0
theorem sel_at {l : List Int} {k : Int} (h0 : 0 ≤ k) (h : k < l.length) : atI (l.map MV.int) k = some (.int (sel l k)) := by
  have : k.toNat < l.length := by simp [*]
  rw [U1 h0, List.getElem?_map]
  simp [sel, List.getD_eq_getElem?_getD, this]
theorem Av {l : List Int} {k : Int} (h0 : 0 ≤ k) (h : k < l.length) : sel l k ∈ l := by
  have : k.toNat < l.length := by simp [*]
  simp [sel, List.getD_eq_getElem?_getD, this]
theorem fm {a b : Int} (h : 0 < b) : 0 ≤ a.fmod b ∧ a.fmod b < b := ⟨Int.fmod_nonneg_of_pos _ h, Int.fmod_lt_of_pos _ h⟩
theorem Yh {d : Nat} {a : Addr} {fz : List Addr} {Q : MQ} {μ : MH} {ns : List Int} {k : Int} (hΓ : Γ "_law_of" = some Jm) (hd : 1 ≤ d) (ha : μ a = some (.list (ns.map .int))) (hn : ns.length ≤ 63) (hk : 0 ≤ k)
    (h : ∀ μ', Ext μ μ' → Q (.int (at0 ns k)) μ') : calls G Γ d "_law_of" [.ref a, .int k] fz Q X0 μ := by
  refine Xx hΓ rfl hd (seq ?_)
  ((try dsimp only [Um,X6,Qr,Qu,Qs,Qg,Qf,Xa,X7,Qy,Qz,Xj,Qx,X8,X9,Qd,Qq,Qc,Qe,Qv,Xl,Q4,Qp,Qt,Ql,Qb,Qa,Q1,Qh,Q5,Q3,Q0,Q9,Q8,Q7,Q6,Qo,X2,Qm,X3,X4,Qn,args0,Xb,X1,Xf,Xm,Xg,Xi,Qk,X5,Qi,Qj,Qw,Q2,zgz,zgs,zlc,zln,Nat.reduceAdd,kr0,kr1,kl0,kl1,kz0]); (try simp (discharger := decide) only [Um,X6,Qr,Qu,Qs,Qg,Qf,Xa,X7,Qy,Qz,Xj,Qx,X8,X9,Qd,Qq,Qc,Qe,Qv,Xl,Q4,Qp,Qt,Ql,Qb,Qa,Q1,Qh,Q5,Q3,Q0,Q9,Q8,Q7,Q6,Qo,X2,Qm,X3,X4,Qn,args0,Xb,X1,Xh,Xk,Xc,Xe,Xf,Xm,Xg,Xi,Xr,Xs,Qk,X5,Xn,Xd,Qi,Qj,Qw,Q2,Xu,zoi,zel,zta,zat,zgz,zgs,zlc,zln,Nat.reduceAdd,zza,znt,zcn,MV.int.injEq,kr0,kr1,kl0,kl1,kz0]))
  refine Au rfl rfl rfl (by simp) ha (by simp [fits]; exact Nat.le_trans (by assumption) (by decide)) fun c hc hcf c₂ hc₂ hcf₂ => ?_
  rw [pick_one _ hk] at hc₂ ⊢
  have ne : c ≠ c₂ := Y3 (o := .list ((List.map MV.int ns).drop k.toNat |>.take 1)) (by simp [Xo]) hc₂
  refine b_addl (by rw [Yv ne, Xo]) Xo (fit (by simp; omega)) fun c₃ hc₃ hcf₃ => ?_
  refine ⟨_, ?_, h _ ((Ext.upd hc).trans ((Ext.upd hc₂).trans (Ext.upd hc₃)))⟩
  rw [Kk Xo (by simp; omega), U1 (by first|exact dn hd rfl|exact dl hd rfl|exact Int.natCast_nonneg _)]
  simp only [Int.toNat_zero]
  by_cases hlt : k.toNat < ns.length
  · rw [List.drop_eq_getElem_cons (by simpa using hlt)]
    simp [at0, List.getD_eq_getElem?_getD, hlt]
  · rw [List.drop_eq_nil_of_le (by simp; lia)]
    simp [at0, List.getD_eq_getElem?_getD, List.getElem?_eq_none (show ns.length ≤ k.toNat by lia)]
noncomputable def baseOf (ns : List Int) : Int := sel [0, 7, 300, 999982] ((at0 ns 0).fmod 4)
theorem Ph {d : Nat} {a : Addr} {fz : List Addr} {Q : MQ} {μ : MH} {ns : List Int} (hΓ₁ : Γ "_law_of" = some Jm) (hΓ : Γ "_law_base" = some J0) (hd : 2 ≤ d) (ha : μ a = some (.list (ns.map .int))) (hn : ns.length ≤ 63)
    (h : ∀ μ', Ext μ μ' → Q (.int (baseOf ns)) μ') : calls G Γ d "_law_base" [.ref a] fz Q X0 μ := by
  refine Xx hΓ rfl (by first|exact dn hd rfl|exact dl hd rfl|omega) (seq ?_)
  ((try dsimp only [K8,X6,Qr,Qu,Qs,Qg,Qf,Xa,X7,Qy,Qz,Xj,Qx,X8,X9,Qd,Qq,Qc,Qe,Qv,Xl,Q4,Qp,Qt,Ql,Qb,Qa,Q1,Qh,Q5,Q3,Q0,Q9,Q8,Q7,Q6,Qo,X2,Qm,X3,X4,Qn,args0,Xb,X1,Xf,Xm,Xg,Xi,Qk,X5,Qi,Qj,Qw,Q2,zgz,zgs,zlc,zln,Nat.reduceAdd,kr0,kr1,kl0,kl1,kz0]); (try simp (discharger := decide) only [K8,X6,Qr,Qu,Qs,Qg,Qf,Xa,X7,Qy,Qz,Xj,Qx,X8,X9,Qd,Qq,Qc,Qe,Qv,Xl,Q4,Qp,Qt,Ql,Qb,Qa,Q1,Qh,Q5,Q3,Q0,Q9,Q8,Q7,Q6,Qo,X2,Qm,X3,X4,Qn,args0,Xb,X1,Xh,Xk,Xc,Xe,Xf,Xm,Xg,Xi,Xr,Xs,Qk,X5,Xn,Xd,Qi,Qj,Qw,Q2,Xu,zoi,zel,zta,zat,zgz,zgs,zlc,zln,Nat.reduceAdd,zza,znt,zcn,MV.int.injEq,kr0,kr1,kl0,kl1,kz0]))
  intro c hc hcf
  refine Yh hΓ₁ (by first|exact dn hd rfl|exact dl hd rfl|omega) (by rw [Yv (Y3 ha hc)]; exact ha) hn (by decide) fun μ' hx => ?_
  have hc' := hx c _ Xo
  ((try dsimp only [X6,Qr,Qu,Qs,Qg,Qf,Xa,X7,Qy,Qz,Xj,Qx,X8,X9,Qd,Qq,Qc,Qe,Qv,Xl,Q4,Qp,Qt,Ql,Qb,Qa,Q1,Qh,Q5,Q3,Q0,Q9,Q8,Q7,Q6,Qo,X2,Qm,X3,X4,Qn,args0,Xb,X1,Xf,Xm,Xg,Xi,Qk,X5,Qi,Qj,Qw,Q2,zgz,zgs,zlc,zln,Nat.reduceAdd,kr0,kr1,kl0,kl1,kz0]); (try simp (discharger := decide) only [X6,Qr,Qu,Qs,Qg,Qf,Xa,X7,Qy,Qz,Xj,Qx,X8,X9,Qd,Qq,Qc,Qe,Qv,Xl,Q4,Qp,Qt,Ql,Qb,Qa,Q1,Qh,Q5,Q3,Q0,Q9,Q8,Q7,Q6,Qo,X2,Qm,X3,X4,Qn,args0,Xb,X1,Xh,Xk,Xc,Xe,Xf,Xm,Xg,Xi,Xr,Xs,Qk,X5,Xn,Xd,Qi,Qj,Qw,Q2,Xu,zoi,zel,zta,zat,zgz,zgs,zlc,zln,Nat.reduceAdd,zza,znt,zcn,MV.int.injEq,kr0,kr1,kl0,kl1,kz0]))
  refine ⟨_, ?_, h _ ((Ext.upd hc).trans hx)⟩
  rw [Kk hc' (by simp)]
  exact sel_at (l := [0, 7, 300, 999982]) (fm (by first|exact dn hd rfl|exact dl hd rfl|exact Int.natCast_nonneg _)).1 (fm (by first|exact dn hd rfl|exact dl hd rfl|exact Int.natCast_nonneg _)).2
theorem Od {d : Nat} {i : Int} {fz : List Addr} {Q : MQ} {μ : MH} (hΓ : Γ "_law_whole" = some Nj) (hd : 1 ≤ d) (h : Q (.bool true) μ) : calls G Γ d "_law_whole" [.int i] fz Q X0 μ := by
  refine Xx hΓ rfl (by first|exact dn hd rfl|exact dl hd rfl|omega) (seq ?_)
  ((try dsimp only [J6,X6,Qr,Qu,Qs,Qg,Qf,Xa,X7,Qy,Qz,Xj,Qx,X8,X9,Qd,Qq,Qc,Qe,Qv,Xl,Q4,Qp,Qt,Ql,Qb,Qa,Q1,Qh,Q5,Q3,Q0,Q9,Q8,Q7,Q6,Qo,X2,Qm,X3,X4,Qn,args0,Xb,X1,Xf,Xm,Xg,Xi,Qk,X5,Qi,Qj,Qw,Q2,zgz,zgs,zlc,zln,Nat.reduceAdd,kr0,kr1,kl0,kl1,kz0,isTy]); (try simp (discharger := decide) only [J6,X6,Qr,Qu,Qs,Qg,Qf,Xa,X7,Qy,Qz,Xj,Qx,X8,X9,Qd,Qq,Qc,Qe,Qv,Xl,Q4,Qp,Qt,Ql,Qb,Qa,Q1,Qh,Q5,Q3,Q0,Q9,Q8,Q7,Q6,Qo,X2,Qm,X3,X4,Qn,args0,Xb,X1,Xh,Xk,Xc,Xe,Xf,Xm,Xg,Xi,Xr,Xs,Qk,X5,Xn,Xd,Qi,Qj,Qw,Q2,Xu,zoi,zel,zta,zat,zgz,zgs,zlc,zln,Nat.reduceAdd,zza,znt,zcn,MV.int.injEq,kr0,kr1,kl0,kl1,kz0,isTy]))
  simpa using h
end Mine
end
section
namespace Mine
open PySem
variable {G : String → Option MV} {Γ : String → Option MFun}
noncomputable def GoodN (s : Str) : Prop := 2 ≤ s.length ∧ s.length ≤ 8 ∧ ∀ c ∈ s.cps.toList, 97 ≤ c ∧ c ≤ 122
abbrev S (x : String) : Str := Str.ofString x
noncomputable def GoodE (names : List Str) (number : Int) (e : MV) : Prop :=
  (∃ j, e = .tup [.str (S "undo"), .int j] ∧ 1 ≤ j ∧ j < number) ∨
  (∃ nm lo hi, e = .tup [.str (S "clear"), .str nm, .int lo, .int hi] ∧ nm ∈ names ∧ 0 ≤ lo ∧ lo ≤ hi ∧ hi ≤ 1000000) ∨
  (∃ nm lo hi nm', e = .tup [.str (S "like"), .str nm, .int lo, .int hi, .str nm'] ∧ nm ∈ names ∧ nm' ∈ names ∧ 0 ≤ lo ∧ lo ≤ hi ∧ hi ≤ 1000000) ∨
  (∃ nm lo hi v, e = .tup [.str (S "tell"), .str nm, .int lo, .int hi, .int v] ∧ nm ∈ names ∧ 0 ≤ lo ∧ lo ≤ hi ∧ hi ≤ 1000000 ∧ -1000000000 ≤ v ∧ v ≤ 1000000000)
theorem lit {μ : MH} {c : Addr} (l : List Int) {k : Int} (h0 : 0 ≤ k) (h1 : k < l.length) (hl : l.length ≤ 1000) {Q : MV → Prop} (h : Q (.int (sel l k))) : ∃ v, idxM (upd μ c (.list (l.map .int))) (.ref c) (.int k) = some v ∧ Q v :=
  ⟨_, by rw [Kk Xo (by simp; exact Nat.le_trans (by assumption) (by decide))]; exact sel_at h0 h1, h⟩
theorem atS {μ : MH} {p : Addr} {names : List Str} {k : Int} (hp : μ p = some (.list (names.map .str))) (hl : names.length ≤ 1000) (h0 : 0 ≤ k) (h1 : k < names.length) {Q : MV → Prop} (h : ∀ nm ∈ names, Q (.str nm)) : ∃ v, idxM μ (.ref p) (.int k) = some v ∧ Q v := by
  have hk : k.toNat < names.length := by simp [*]
  refine ⟨.str names[k.toNat], ?_, h _ (List.getElem_mem hk)⟩
  rw [Kk hp (by simp; exact Nat.le_trans (by assumption) (by decide)), U1 h0]
  simp [hk]
theorem at3 {μ : MH} {p : Addr} {names : List Str} {n : Int} (hp : μ p = some (.list (names.map .str))) (hl : names.length = 3) {Q : MV → Prop} (h : ∀ nm ∈ names, Q (.str nm)) : ∃ v, idxM μ (.ref p) (.int (n.fmod 3)) = some v ∧ Q v :=
  atS hp (by first|exact dn hd rfl|exact dl hd rfl|simp [*]) (fm (by decide)).1 (by have := (fm (a := n) (b := 3) (by decide)).2; simp [*]) h
theorem entry_tail {Φ : CallSpec} {p : Addr} {fz : List Addr} {Q : MQ} {μ : MH} {names : List Str} {n number lo hi : Int} {nm : Str} {V : MVars} (hp : μ p = some (.list (names.map .str))) (h3 : names.length = 3) (hnm : nm ∈ names) (hlo : 0 ≤ lo) (hhi : lo ≤ hi) (hm : hi ≤ 1000000)
    (v0 : V 0 = some (.ref p)) (v2 : V 2 = some (.int n)) (v4 : V 4 = some (.int lo)) (v5 : V 5 = some (.int hi)) (v6 : V 6 = some (.str nm)) (h : ∀ e μ', Ext μ μ' → GoodE names number e → Q e μ') :
    exs G Φ X0 [Zd, Zc, Zb] fz V (kz Q) μ := by
  refine seq ?_
  ((try dsimp only [Zd,X6,Qr,Qu,Qs,Qg,Qf,Xa,X7,Qy,Qz,Xj,Qx,X8,X9,Qd,Qq,Qc,Qe,Qv,Xl,Q4,Qp,Qt,Ql,Qb,Qa,Q1,Qh,Q5,Q3,Q0,Q9,Q8,Q7,Q6,Qo,X2,Qm,X3,X4,Qn,args0,Xb,X1,Xf,Xm,Xg,Xi,Qk,X5,Qi,Qj,Qw,Q2,zgz,zgs,zlc,zln,Nat.reduceAdd,kr0,kr1,kl0,kl1,kz0,v0,v2,v4,v5,v6]); (try simp (discharger := decide) only [Zd,X6,Qr,Qu,Qs,Qg,Qf,Xa,X7,Qy,Qz,Xj,Qx,X8,X9,Qd,Qq,Qc,Qe,Qv,Xl,Q4,Qp,Qt,Ql,Qb,Qa,Q1,Qh,Q5,Q3,Q0,Q9,Q8,Q7,Q6,Qo,X2,Qm,X3,X4,Qn,args0,Xb,X1,Xh,Xk,Xc,Xe,Xf,Xm,Xg,Xi,Xr,Xs,Qk,X5,Xn,Xd,Qi,Qj,Qw,Q2,Xu,zoi,zel,zta,zat,zgz,zgs,zlc,zln,Nat.reduceAdd,zza,znt,zcn,MV.int.injEq,kr0,kr1,kl0,kl1,kz0,v0,v2,v4,v5,v6]))
  split
  · refine seq ?_
    ((try dsimp only [Zm,X6,Qr,Qu,Qs,Qg,Qf,Xa,X7,Qy,Qz,Xj,Qx,X8,X9,Qd,Qq,Qc,Qe,Qv,Xl,Q4,Qp,Qt,Ql,Qb,Qa,Q1,Qh,Q5,Q3,Q0,Q9,Q8,Q7,Q6,Qo,X2,Qm,X3,X4,Qn,args0,Xb,X1,Xf,Xm,Xg,Xi,Qk,X5,Qi,Qj,Qw,Q2,zgz,zgs,zlc,zln,Nat.reduceAdd,kr0,kr1,kl0,kl1,kz0,v0,v2,v4,v5,v6]); (try simp (discharger := decide) only [Zm,X6,Qr,Qu,Qs,Qg,Qf,Xa,X7,Qy,Qz,Xj,Qx,X8,X9,Qd,Qq,Qc,Qe,Qv,Xl,Q4,Qp,Qt,Ql,Qb,Qa,Q1,Qh,Q5,Q3,Q0,Q9,Q8,Q7,Q6,Qo,X2,Qm,X3,X4,Qn,args0,Xb,X1,Xh,Xk,Xc,Xe,Xf,Xm,Xg,Xi,Xr,Xs,Qk,X5,Xn,Xd,Qi,Qj,Qw,Q2,Xu,zoi,zel,zta,zat,zgz,zgs,zlc,zln,Nat.reduceAdd,zza,znt,zcn,MV.int.injEq,kr0,kr1,kl0,kl1,kz0,v0,v2,v4,v5,v6]))
    exact h _ _ .refl (.inr (.inl ⟨nm, lo, hi, rfl, hnm, hlo, hhi, hm⟩))
  (try dsimp only [kr0])
  refine J3 (seq ?_)
  ((try dsimp only [Zc,X6,Qr,Qu,Qs,Qg,Qf,Xa,X7,Qy,Qz,Xj,Qx,X8,X9,Qd,Qq,Qc,Qe,Qv,Xl,Q4,Qp,Qt,Ql,Qb,Qa,Q1,Qh,Q5,Q3,Q0,Q9,Q8,Q7,Q6,Qo,X2,Qm,X3,X4,Qn,args0,Xb,X1,Xf,Xm,Xg,Xi,Qk,X5,Qi,Qj,Qw,Q2,zgz,zgs,zlc,zln,Nat.reduceAdd,kr0,kr1,kl0,kl1,kz0,v0,v2,v4,v5,v6]); (try simp (discharger := decide) only [Zc,X6,Qr,Qu,Qs,Qg,Qf,Xa,X7,Qy,Qz,Xj,Qx,X8,X9,Qd,Qq,Qc,Qe,Qv,Xl,Q4,Qp,Qt,Ql,Qb,Qa,Q1,Qh,Q5,Q3,Q0,Q9,Q8,Q7,Q6,Qo,X2,Qm,X3,X4,Qn,args0,Xb,X1,Xh,Xk,Xc,Xe,Xf,Xm,Xg,Xi,Xr,Xs,Qk,X5,Xn,Xd,Qi,Qj,Qw,Q2,Xu,zoi,zel,zta,zat,zgz,zgs,zlc,zln,Nat.reduceAdd,zza,znt,zcn,MV.int.injEq,kr0,kr1,kl0,kl1,kz0,v0,v2,v4,v5,v6]))
  have hd1 : deep μ 9 (.tup [.int 4, .int 5]) = some (.tuple [.int 4, .int 5]) := by simp [deep, List.mapM_cons, List.mapM_nil]
  have hd2 : deep μ 9 (.int (n.fmod 8)) = some (.int (n.fmod 8)) := by simp [deep]
  have hin : cmpM .isin μ (.int (n.fmod 8)) (.tup [.int 4, .int 5]) = some (4 == n.fmod 8 || 5 == n.fmod 8) := by
    show anyT (deep μ 9 (.tup [.int 4, .int 5])) (deep μ 9 (.int (n.fmod 8))) = _
    rw [hd1, hd2]
    show some (PyData.eqv (.int 4) (.int (n.fmod 8)) || (PyData.eqv (.int 5) (.int (n.fmod 8)) || false)) = _
    rw [Bool.or_false]; rfl
  ((try dsimp only [hin,X6,Qr,Qu,Qs,Qg,Qf,Xa,X7,Qy,Qz,Xj,Qx,X8,X9,Qd,Qq,Qc,Qe,Qv,Xl,Q4,Qp,Qt,Ql,Qb,Qa,Q1,Qh,Q5,Q3,Q0,Q9,Q8,Q7,Q6,Qo,X2,Qm,X3,X4,Qn,args0,Xb,X1,Xf,Xm,Xg,Xi,Qk,X5,Qi,Qj,Qw,Q2,zgz,zgs,zlc,zln,Nat.reduceAdd,kr0,kr1,kl0,kl1,kz0]); (try simp (discharger := decide) only [hin,X6,Qr,Qu,Qs,Qg,Qf,Xa,X7,Qy,Qz,Xj,Qx,X8,X9,Qd,Qq,Qc,Qe,Qv,Xl,Q4,Qp,Qt,Ql,Qb,Qa,Q1,Qh,Q5,Q3,Q0,Q9,Q8,Q7,Q6,Qo,X2,Qm,X3,X4,Qn,args0,Xb,X1,Xh,Xk,Xc,Xe,Xf,Xm,Xg,Xi,Xr,Xs,Qk,X5,Xn,Xd,Qi,Qj,Qw,Q2,Xu,zoi,zel,zta,zat,zgz,zgs,zlc,zln,Nat.reduceAdd,zza,znt,zcn,MV.int.injEq,kr0,kr1,kl0,kl1,kz0]))
  split
  · refine seq ?_
    ((try dsimp only [Zl,X6,Qr,Qu,Qs,Qg,Qf,Xa,X7,Qy,Qz,Xj,Qx,X8,X9,Qd,Qq,Qc,Qe,Qv,Xl,Q4,Qp,Qt,Ql,Qb,Qa,Q1,Qh,Q5,Q3,Q0,Q9,Q8,Q7,Q6,Qo,X2,Qm,X3,X4,Qn,args0,Xb,X1,Xf,Xm,Xg,Xi,Qk,X5,Qi,Qj,Qw,Q2,zgz,zgs,zlc,zln,Nat.reduceAdd,kr0,kr1,kl0,kl1,kz0,v0,v2,v4,v5,v6]); (try simp (discharger := decide) only [Zl,X6,Qr,Qu,Qs,Qg,Qf,Xa,X7,Qy,Qz,Xj,Qx,X8,X9,Qd,Qq,Qc,Qe,Qv,Xl,Q4,Qp,Qt,Ql,Qb,Qa,Q1,Qh,Q5,Q3,Q0,Q9,Q8,Q7,Q6,Qo,X2,Qm,X3,X4,Qn,args0,Xb,X1,Xh,Xk,Xc,Xe,Xf,Xm,Xg,Xi,Xr,Xs,Qk,X5,Xn,Xd,Qi,Qj,Qw,Q2,Xu,zoi,zel,zta,zat,zgz,zgs,zlc,zln,Nat.reduceAdd,zza,znt,zcn,MV.int.injEq,kr0,kr1,kl0,kl1,kz0,v0,v2,v4,v5,v6]))
    refine at3 hp h3 fun nm' hnm' => ?_
    exact h _ _ .refl (.inr (.inr (.inl ⟨nm, lo, hi, nm', rfl, hnm, hnm', hlo, hhi, hm⟩)))
  (try dsimp only [kr0])
  refine J3 (seq ?_)
  ((try dsimp only [Zb,X6,Qr,Qu,Qs,Qg,Qf,Xa,X7,Qy,Qz,Xj,Qx,X8,X9,Qd,Qq,Qc,Qe,Qv,Xl,Q4,Qp,Qt,Ql,Qb,Qa,Q1,Qh,Q5,Q3,Q0,Q9,Q8,Q7,Q6,Qo,X2,Qm,X3,X4,Qn,args0,Xb,X1,Xf,Xm,Xg,Xi,Qk,X5,Qi,Qj,Qw,Q2,zgz,zgs,zlc,zln,Nat.reduceAdd,kr0,kr1,kl0,kl1,kz0,v0,v2,v4,v5,v6]); (try simp (discharger := decide) only [Zb,X6,Qr,Qu,Qs,Qg,Qf,Xa,X7,Qy,Qz,Xj,Qx,X8,X9,Qd,Qq,Qc,Qe,Qv,Xl,Q4,Qp,Qt,Ql,Qb,Qa,Q1,Qh,Q5,Q3,Q0,Q9,Q8,Q7,Q6,Qo,X2,Qm,X3,X4,Qn,args0,Xb,X1,Xh,Xk,Xc,Xe,Xf,Xm,Xg,Xi,Xr,Xs,Qk,X5,Xn,Xd,Qi,Qj,Qw,Q2,Xu,zoi,zel,zta,zat,zgz,zgs,zlc,zln,Nat.reduceAdd,zza,znt,zcn,MV.int.injEq,kr0,kr1,kl0,kl1,kz0,v0,v2,v4,v5,v6]))
  intro c hc hcf
  refine lit [1, 2, 1, 0, -1, n.fmod 2000000001 - 1000000000] (fm (b := 6) (by decide)).1 (fm (b := 6) (by decide)).2 (by simp) ?_
  have hs := Av (l := [1, 2, 1, 0, -1, n.fmod 2000000001 - 1000000000]) (k := (n.fdiv 1920).fmod 6) (fm (b := 6) (by decide)).1 (fm (b := 6) (by decide)).2
  generalize sel [1, 2, 1, 0, -1, n.fmod 2000000001 - 1000000000] ((n.fdiv 1920).fmod 6) = w at hs ⊢
  have := fm (a := n) (b := 2000000001) (by decide)
  simp only [List.mem_cons, List.not_mem_nil, or_false] at hs
  have hb : -1000000000 ≤ n.fmod 2000000001 - 1000000000 ∧ n.fmod 2000000001 - 1000000000 ≤ 1000000000 := ⟨Int.sub_le_sub_right this.1 1000000000, Int.sub_le_sub_right (b := 2000000000) (Int.le_of_lt_add_one this.2) 1000000000⟩
  have hwb : -1000000000 ≤ w ∧ w ≤ 1000000000 := by
    rcases hs with e | e | e | e | e | e <;> rw [e]
    · decide
    · decide
    · decide
    · decide
    · decide
    · exact hb
  exact h _ _ (Ext.upd hc) (.inr (.inr (.inr ⟨nm, lo, hi, w, rfl, hnm, hlo, hhi, hm, hwb.1, hwb.2⟩)))
theorem Oe {d : Nat} {p : Addr} {fz : List Addr} {Q : MQ} {μ : MH} {names : List Str} {base n₀ number : Int} (hΓ : Γ "_law_entry" = some Zi) (hd : 1 ≤ d) (hp : μ p = some (.list (names.map .str))) (h3 : names.length = 3)
    (hb : 0 ≤ base ∧ base ≤ 1000000) (hnum : 1 ≤ number ∧ number ≤ 1000) (h : ∀ e μ', Ext μ μ' → GoodE names number e → Q e μ') : calls G Γ d "_law_entry" [.ref p, .int base, .int n₀, .int number] fz Q X0 μ := by
  refine Xx hΓ rfl hd (seq ?_)
  ((try dsimp only [Jf,X6,Qr,Qu,Qs,Qg,Qf,Xa,X7,Qy,Qz,Xj,Qx,X8,X9,Qd,Qq,Qc,Qe,Qv,Xl,Q4,Qp,Qt,Ql,Qb,Qa,Q1,Qh,Q5,Q3,Q0,Q9,Q8,Q7,Q6,Qo,X2,Qm,X3,X4,Qn,args0,Xb,X1,Xf,Xm,Xg,Xi,Qk,X5,Qi,Qj,Qw,Q2,zgz,zgs,zlc,zln,Nat.reduceAdd,kr0,kr1,kl0,kl1,kz0]); (try simp (discharger := decide) only [Jf,X6,Qr,Qu,Qs,Qg,Qf,Xa,X7,Qy,Qz,Xj,Qx,X8,X9,Qd,Qq,Qc,Qe,Qv,Xl,Q4,Qp,Qt,Ql,Qb,Qa,Q1,Qh,Q5,Q3,Q0,Q9,Q8,Q7,Q6,Qo,X2,Qm,X3,X4,Qn,args0,Xb,X1,Xh,Xk,Xc,Xe,Xf,Xm,Xg,Xi,Xr,Xs,Qk,X5,Xn,Xd,Qi,Qj,Qw,Q2,Xu,zoi,zel,zta,zat,zgz,zgs,zlc,zln,Nat.reduceAdd,zza,znt,zcn,MV.int.injEq,kr0,kr1,kl0,kl1,kz0]))
  have hnn := fm (a := n₀ * 48271) (b := 2147483647) (by decide)
  generalize (n₀ * 48271).fmod 2147483647 = n at hnn ⊢
  refine seq ?_
  ((try dsimp only [Je,X6,Qr,Qu,Qs,Qg,Qf,Xa,X7,Qy,Qz,Xj,Qx,X8,X9,Qd,Qq,Qc,Qe,Qv,Xl,Q4,Qp,Qt,Ql,Qb,Qa,Q1,Qh,Q5,Q3,Q0,Q9,Q8,Q7,Q6,Qo,X2,Qm,X3,X4,Qn,args0,Xb,X1,Xf,Xm,Xg,Xi,Qk,X5,Qi,Qj,Qw,Q2,zgz,zgs,zlc,zln,Nat.reduceAdd,kr0,kr1,kl0,kl1,kz0]); (try simp (discharger := decide) only [Je,X6,Qr,Qu,Qs,Qg,Qf,Xa,X7,Qy,Qz,Xj,Qx,X8,X9,Qd,Qq,Qc,Qe,Qv,Xl,Q4,Qp,Qt,Ql,Qb,Qa,Q1,Qh,Q5,Q3,Q0,Q9,Q8,Q7,Q6,Qo,X2,Qm,X3,X4,Qn,args0,Xb,X1,Xh,Xk,Xc,Xe,Xf,Xm,Xg,Xi,Xr,Xs,Qk,X5,Xn,Xd,Qi,Qj,Qw,Q2,Xu,zoi,zel,zta,zat,zgz,zgs,zlc,zln,Nat.reduceAdd,zza,znt,zcn,MV.int.injEq,kr0,kr1,kl0,kl1,kz0]))
  intro c hc hcf
  refine lit [10, 900000] (by split <;> exact Int.natCast_nonneg _) (by simp only [List.length_cons, List.length_nil]; split <;> exact Int.natCast_nonneg _) (by simp) ?_
  have hs : sel [10, 900000] (if ((n.fdiv 11520).fmod 5 == 1) = true then 1 else 0) = 10 ∨ sel [10, 900000] (if ((n.fdiv 11520).fmod 5 == 1) = true then 1 else 0) = 900000 := by split <;> simp [sel]
  generalize sel [10, 900000] (if ((n.fdiv 11520).fmod 5 == 1) = true then 1 else 0) = w at hs ⊢
  have hw : 0 < w := by rcases hs with e | e <;> rw [e] <;> decide
  rw [Xe hw]
  ((try dsimp only [X6,Qr,Qu,Qs,Qg,Qf,Xa,X7,Qy,Qz,Xj,Qx,X8,X9,Qd,Qq,Qc,Qe,Qv,Xl,Q4,Qp,Qt,Ql,Qb,Qa,Q1,Qh,Q5,Q3,Q0,Q9,Q8,Q7,Q6,Qo,X2,Qm,X3,X4,Qn,args0,Xb,X1,Xf,Xm,Xg,Xi,Qk,X5,Qi,Qj,Qw,Q2,zgz,zgs,zlc,zln,Nat.reduceAdd,kr0,kr1,kl0,kl1,kz0]); (try simp (discharger := decide) only [X6,Qr,Qu,Qs,Qg,Qf,Xa,X7,Qy,Qz,Xj,Qx,X8,X9,Qd,Qq,Qc,Qe,Qv,Xl,Q4,Qp,Qt,Ql,Qb,Qa,Q1,Qh,Q5,Q3,Q0,Q9,Q8,Q7,Q6,Qo,X2,Qm,X3,X4,Qn,args0,Xb,X1,Xh,Xk,Xc,Xe,Xf,Xm,Xg,Xi,Xr,Xs,Qk,X5,Xn,Xd,Qi,Qj,Qw,Q2,Xu,zoi,zel,zta,zat,zgz,zgs,zlc,zln,Nat.reduceAdd,zza,znt,zcn,MV.int.injEq,kr0,kr1,kl0,kl1,kz0]))
  have hlo : 0 ≤ min 1000000 (base + (n.fdiv 24).fmod w) ∧ min 1000000 (base + (n.fdiv 24).fmod w) ≤ 1000000 := by
    exact ⟨Int.le_min.mpr ⟨by decide, Int.add_nonneg hb.1 (fm (a := n.fdiv 24) hw).1⟩, Int.min_le_left _ _⟩
  generalize min 1000000 (base + (n.fdiv 24).fmod w) = lo at hlo ⊢
  refine seq ?_
  ((try dsimp only [Jd,X6,Qr,Qu,Qs,Qg,Qf,Xa,X7,Qy,Qz,Xj,Qx,X8,X9,Qd,Qq,Qc,Qe,Qv,Xl,Q4,Qp,Qt,Ql,Qb,Qa,Q1,Qh,Q5,Q3,Q0,Q9,Q8,Q7,Q6,Qo,X2,Qm,X3,X4,Qn,args0,Xb,X1,Xf,Xm,Xg,Xi,Qk,X5,Qi,Qj,Qw,Q2,zgz,zgs,zlc,zln,Nat.reduceAdd,kr0,kr1,kl0,kl1,kz0]); (try simp (discharger := decide) only [Jd,X6,Qr,Qu,Qs,Qg,Qf,Xa,X7,Qy,Qz,Xj,Qx,X8,X9,Qd,Qq,Qc,Qe,Qv,Xl,Q4,Qp,Qt,Ql,Qb,Qa,Q1,Qh,Q5,Q3,Q0,Q9,Q8,Q7,Q6,Qo,X2,Qm,X3,X4,Qn,args0,Xb,X1,Xh,Xk,Xc,Xe,Xf,Xm,Xg,Xi,Xr,Xs,Qk,X5,Xn,Xd,Qi,Qj,Qw,Q2,Xu,zoi,zel,zta,zat,zgz,zgs,zlc,zln,Nat.reduceAdd,zza,znt,zcn,MV.int.injEq,kr0,kr1,kl0,kl1,kz0]))
  intro c₂ hc₂ hcf₂
  refine lit [0, 1, 3, 9, 35, 700, 1000000, 9] (fm (b := 8) (by decide)).1 (fm (b := 8) (by decide)).2 (by simp) ?_
  have hs2 := Av (l := [0, 1, 3, 9, 35, 700, 1000000, 9]) (k := (n.fdiv 240).fmod 8) (fm (b := 8) (by decide)).1 (fm (b := 8) (by decide)).2
  generalize sel [0, 1, 3, 9, 35, 700, 1000000, 9] ((n.fdiv 240).fmod 8) = w2 at hs2 ⊢
  have hw2 : 0 ≤ w2 := of_decide_eq_true (all_of (P := fun y => decide (0 ≤ y)) hs2 rfl)
  ((try dsimp only [X6,Qr,Qu,Qs,Qg,Qf,Xa,X7,Qy,Qz,Xj,Qx,X8,X9,Qd,Qq,Qc,Qe,Qv,Xl,Q4,Qp,Qt,Ql,Qb,Qa,Q1,Qh,Q5,Q3,Q0,Q9,Q8,Q7,Q6,Qo,X2,Qm,X3,X4,Qn,args0,Xb,X1,Xf,Xm,Xg,Xi,Qk,X5,Qi,Qj,Qw,Q2,zgz,zgs,zlc,zln,Nat.reduceAdd,kr0,kr1,kl0,kl1,kz0]); (try simp (discharger := decide) only [X6,Qr,Qu,Qs,Qg,Qf,Xa,X7,Qy,Qz,Xj,Qx,X8,X9,Qd,Qq,Qc,Qe,Qv,Xl,Q4,Qp,Qt,Ql,Qb,Qa,Q1,Qh,Q5,Q3,Q0,Q9,Q8,Q7,Q6,Qo,X2,Qm,X3,X4,Qn,args0,Xb,X1,Xh,Xk,Xc,Xe,Xf,Xm,Xg,Xi,Xr,Xs,Qk,X5,Xn,Xd,Qi,Qj,Qw,Q2,Xu,zoi,zel,zta,zat,zgz,zgs,zlc,zln,Nat.reduceAdd,zza,znt,zcn,MV.int.injEq,kr0,kr1,kl0,kl1,kz0]))
  have hhi : lo ≤ min 1000000 (lo + w2) ∧ min 1000000 (lo + w2) ≤ 1000000 := ⟨Int.le_min.mpr ⟨hlo.2, Int.le_add_of_nonneg_right hw2⟩, Int.min_le_left _ _⟩
  generalize min 1000000 (lo + w2) = hi at hhi ⊢
  refine gen ((Ext.upd hc).trans (Ext.upd hc₂)) fun μ₂ x2 => ?_
  have hp₂ := x2 _ _ hp
  refine seq ?_
  ((try dsimp only [Jc,X6,Qr,Qu,Qs,Qg,Qf,Xa,X7,Qy,Qz,Xj,Qx,X8,X9,Qd,Qq,Qc,Qe,Qv,Xl,Q4,Qp,Qt,Ql,Qb,Qa,Q1,Qh,Q5,Q3,Q0,Q9,Q8,Q7,Q6,Qo,X2,Qm,X3,X4,Qn,args0,Xb,X1,Xf,Xm,Xg,Xi,Qk,X5,Qi,Qj,Qw,Q2,zgz,zgs,zlc,zln,Nat.reduceAdd,kr0,kr1,kl0,kl1,kz0]); (try simp (discharger := decide) only [Jc,X6,Qr,Qu,Qs,Qg,Qf,Xa,X7,Qy,Qz,Xj,Qx,X8,X9,Qd,Qq,Qc,Qe,Qv,Xl,Q4,Qp,Qt,Ql,Qb,Qa,Q1,Qh,Q5,Q3,Q0,Q9,Q8,Q7,Q6,Qo,X2,Qm,X3,X4,Qn,args0,Xb,X1,Xh,Xk,Xc,Xe,Xf,Xm,Xg,Xi,Xr,Xs,Qk,X5,Xn,Xd,Qi,Qj,Qw,Q2,Xu,zoi,zel,zta,zat,zgz,zgs,zlc,zln,Nat.reduceAdd,zza,znt,zcn,MV.int.injEq,kr0,kr1,kl0,kl1,kz0]))
  refine at3 hp₂ h3 fun nm hnm => ?_
  refine seq ?_
  ((try dsimp only [Jb,X6,Qr,Qu,Qs,Qg,Qf,Xa,X7,Qy,Qz,Xj,Qx,X8,X9,Qd,Qq,Qc,Qe,Qv,Xl,Q4,Qp,Qt,Ql,Qb,Qa,Q1,Qh,Q5,Q3,Q0,Q9,Q8,Q7,Q6,Qo,X2,Qm,X3,X4,Qn,args0,Xb,X1,Xf,Xm,Xg,Xi,Qk,X5,Qi,Qj,Qw,Q2,zgz,zgs,zlc,zln,Nat.reduceAdd,kr0,kr1,kl0,kl1,kz0]); (try simp (discharger := decide) only [Jb,X6,Qr,Qu,Qs,Qg,Qf,Xa,X7,Qy,Qz,Xj,Qx,X8,X9,Qd,Qq,Qc,Qe,Qv,Xl,Q4,Qp,Qt,Ql,Qb,Qa,Q1,Qh,Q5,Q3,Q0,Q9,Q8,Q7,Q6,Qo,X2,Qm,X3,X4,Qn,args0,Xb,X1,Xh,Xk,Xc,Xe,Xf,Xm,Xg,Xi,Xr,Xs,Qk,X5,Xn,Xd,Qi,Qj,Qw,Q2,Xu,zoi,zel,zta,zat,zgz,zgs,zlc,zln,Nat.reduceAdd,zza,znt,zcn,MV.int.injEq,kr0,kr1,kl0,kl1,kz0]))
  have rest := entry_tail (G := G) (Φ := calls G Γ (d - 1)) (fz := fz) (Q := Q) (n := n) (number := number) (V := (setv (setv (setv (setv (args0 [MV.ref p, MV.int base, MV.int n₀, MV.int number]) 2 (MV.int n)) 4 (MV.int lo)) 5 (MV.int hi)) 6 (MV.str nm))) hp₂ h3 hnm hlo.1 hhi.1 hhi.2 rfl rfl rfl rfl rfl (fun e μ' x g => h e μ' (x2.trans x) g)
  split
  · split
    · rename_i hgt
      simp only [decide_eq_true_eq] at hgt
      refine seq ?_
      ((try dsimp only [Zn,X6,Qr,Qu,Qs,Qg,Qf,Xa,X7,Qy,Qz,Xj,Qx,X8,X9,Qd,Qq,Qc,Qe,Qv,Xl,Q4,Qp,Qt,Ql,Qb,Qa,Q1,Qh,Q5,Q3,Q0,Q9,Q8,Q7,Q6,Qo,X2,Qm,X3,X4,Qn,args0,Xb,X1,Xf,Xm,Xg,Xi,Qk,X5,Qi,Qj,Qw,Q2,zgz,zgs,zlc,zln,Nat.reduceAdd,kr0,kr1,kl0,kl1,kz0]); (try simp (discharger := decide) only [Zn,X6,Qr,Qu,Qs,Qg,Qf,Xa,X7,Qy,Qz,Xj,Qx,X8,X9,Qd,Qq,Qc,Qe,Qv,Xl,Q4,Qp,Qt,Ql,Qb,Qa,Q1,Qh,Q5,Q3,Q0,Q9,Q8,Q7,Q6,Qo,X2,Qm,X3,X4,Qn,args0,Xb,X1,Xh,Xk,Xc,Xe,Xf,Xm,Xg,Xi,Xr,Xs,Qk,X5,Xn,Xd,Qi,Qj,Qw,Q2,Xu,zoi,zel,zta,zat,zgz,zgs,zlc,zln,Nat.reduceAdd,zza,znt,zcn,MV.int.injEq,kr0,kr1,kl0,kl1,kz0]))
      rw [Xe (by first|exact dn hd rfl|exact dl hd rfl|simp [*])]
      ((try dsimp only [X6,Qr,Qu,Qs,Qg,Qf,Xa,X7,Qy,Qz,Xj,Qx,X8,X9,Qd,Qq,Qc,Qe,Qv,Xl,Q4,Qp,Qt,Ql,Qb,Qa,Q1,Qh,Q5,Q3,Q0,Q9,Q8,Q7,Q6,Qo,X2,Qm,X3,X4,Qn,args0,Xb,X1,Xf,Xm,Xg,Xi,Qk,X5,Qi,Qj,Qw,Q2,zgz,zgs,zlc,zln,Nat.reduceAdd,kr0,kr1,kl0,kl1,kz0]); (try simp (discharger := decide) only [X6,Qr,Qu,Qs,Qg,Qf,Xa,X7,Qy,Qz,Xj,Qx,X8,X9,Qd,Qq,Qc,Qe,Qv,Xl,Q4,Qp,Qt,Ql,Qb,Qa,Q1,Qh,Q5,Q3,Q0,Q9,Q8,Q7,Q6,Qo,X2,Qm,X3,X4,Qn,args0,Xb,X1,Xh,Xk,Xc,Xe,Xf,Xm,Xg,Xi,Xr,Xs,Qk,X5,Xn,Xd,Qi,Qj,Qw,Q2,Xu,zoi,zel,zta,zat,zgz,zgs,zlc,zln,Nat.reduceAdd,zza,znt,zcn,MV.int.injEq,kr0,kr1,kl0,kl1,kz0]))
      have := fm (a := n.fdiv 8) (b := number - 1) (by first|exact dn hd rfl|exact dl hd rfl|simp [*])
      exact h _ _ x2 (.inl ⟨_, rfl, by omega, by omega⟩)
    · exact J3 rest
  · exact J3 rest
end Mine
end
section
namespace Mine
open PySem
variable {G : String → Option MV} {Γ : String → Option MFun}
noncomputable def Low (s : Str) : Prop := ∀ c ∈ s.cps.toList, 97 ≤ c ∧ c ≤ 122
theorem Low.ok {s : Str} (h : Low s) : PyData.strOk s = true := by
  unfold PyData.strOk
  rw [Array.all_eq_true']
  intro c hc
  have := h c (Array.mem_toList_iff.mpr hc)
  simp only [decide_eq_true_eq]; lia
theorem P1 (x y : Str) : (x ++ y).cps.toList = x.cps.toList ++ y.cps.toList := by
  show (Str.append x y).cps.toList = _
  simp [Str.append]
theorem Jw (x : Str) : x.length = x.cps.toList.length := by simp [Str.length]
theorem Yg (x y : Str) : (x ++ y).length = x.length + y.length := by simp only [Jw, P1, List.length_append]
theorem Low.append {x y : Str} (hx : Low x) (hy : Low y) : Low (x ++ y) := fun c hc => by
  rw [P1] at hc
  rcases List.mem_append.mp hc with h | h
  · exact hx c h
  · exact hy c h
theorem e0 : (S "").cps.toList = [] := by decide +kernel
theorem Low.join {ss : List Str} (h : ∀ s ∈ ss, Low s) : Low (Txt.join (S "") ss) := by
  have e : Txt.join (S "") ss = Str.join (S "") ss := StrLaws.glued_eq_join _ _
  rw [e]
  clear e
  induction ss with
  | nil => intro c hc; simp [Str.join, Str.empty] at hc
  | cons x ss ih =>
    cases ss with
    | nil => exact h x (.head _)
    | cons y ss => exact ((h x (.head _)).append (by intro c hc; rw [e0] at hc; cases hc)).append (ih fun s hs => h s (.tail _ hs))
theorem len_join {ss : List Str} (h : ∀ s ∈ ss, s.length = 1) : (Txt.join (S "") ss).length = ss.length := by
  have e : Txt.join (S "") ss = Str.join (S "") ss := StrLaws.glued_eq_join _ _
  rw [e]
  clear e
  induction ss with
  | nil => rfl
  | cons x ss ih =>
    cases ss with
    | nil => exact h x (.head _)
    | cons y ss =>
      show (x ++ S "" ++ Str.join _ (y :: ss)).length = _
      rw [Yg, Yg, h x (.head _), ih fun s hs => h s (.tail _ hs)]
      simp only [List.length_cons]
      have : (S "").length = 0 := by decide
      lia
noncomputable def AB : Str := S "abcdefghijklmnopqrstuvwxy"
theorem AB_len : AB.length = 25 := by decide +kernel
theorem AB_low : Low AB := by unfold Low; decide +kernel
noncomputable def signS (k : Int) : Str := ⟨#[AB.cps.toList.getD k.toNat 0]⟩
theorem sign_get {k : Int} (h0 : 0 ≤ k) (h1 : k < 25) : AB.cps.toList[k.toNat]? = some (AB.cps.toList.getD k.toNat 0) := by
  have hk : k.toNat < AB.cps.toList.length := by rw [← Jw, AB_len]; exact (Int.toNat_lt h0).mpr h1
  rw [List.getD_eq_getElem?_getD, List.getElem?_eq_getElem hk]; rfl
theorem sign_AB {μ : MH} {k : Int} (h0 : 0 ≤ k) (h1 : k < 25) : idxM μ (.str AB) (.int k) = some (.str (signS k)) := by
  rw [i_str (by rw [AB_len]; decide), U1 h0, sign_get h0 h1]; rfl
theorem sign_low {k : Int} (h0 : 0 ≤ k) (h1 : k < 25) : Low (signS k) := fun c hc => by
  obtain rfl : c = AB.cps.toList.getD k.toNat 0 := by simpa [signS] using hc
  exact AB_low _ (List.mem_of_getElem? (sign_get h0 h1))
theorem comp_of {Z : Type} {fz : List Addr} {t : MT} {vars : MVars} {T : MVars → (Bool → MH → Prop) → MH → Prop} {Bd : MVars → MQ → MH → Prop} {Q : MQ} {μ : MH} (enc : Z → MV) (p : Z → Bool) (g : Z → MV) {zs : List Z} : ∀ {acc : List MV},
    (∀ z ∈ zs, ∃ vars', bindT t (enc z) vars = some vars' ∧ (∀ F : Bool → MH → Prop, F (p z) μ → T vars' F μ) ∧ ∀ F : MQ, F (g z) μ → Bd vars' F μ) →
    (∀ c, μ c = none → c ∉ fz → Q (.ref c) (upd μ c (.list (acc ++ (zs.filter p).map g)))) → compM fz t vars T Bd Q (zs.map enc) acc μ := by
  induction zs with
  | nil =>
    intro acc _ h c hc hcz
    have := h c hc hcz
    rw [List.filter_nil, List.map_nil, List.append_nil] at this
    exact this
  | cons z zs ih =>
    intro acc hv h
    obtain ⟨vars', hb, hT, hB⟩ := hv z (.head _)
    refine ⟨vars', hb, hT _ ?_⟩
    cases q : p z with
    | false =>
      rw [if_neg Bool.false_ne_true]
      rw [List.filter_cons_of_neg (by rw [q]; decide)] at h
      exact ih (fun u hu => hv u (.tail _ hu)) h
    | true =>
      rw [if_pos rfl]
      rw [List.filter_cons_of_pos q, List.map_cons] at h
      exact hB _ (ih (fun u hu => hv u (.tail _ hu)) fun c hc hcz => by rw [List.append_assoc]; exact h c hc hcz)
theorem O0 : ∀ (ss : List Str), strsOf (ss.map .str) = some ss
  | [] => rfl
  | s :: ss => by
    have := O0 ss
    unfold strsOf at this ⊢
    rw [List.map_cons, List.mapM_cons, this]; rfl
theorem Low.take {x : Str} (h : Low x) (n : Nat) : Low ⟨(x.cps.toList.take n).toArray⟩ := fun c hc => h c (List.mem_of_mem_take (by simpa using hc))
theorem Low.drop {x : Str} (h : Low x) (n : Nat) : Low ⟨(x.cps.toList.drop n).toArray⟩ := fun c hc => h c (List.mem_of_mem_drop (by simpa using hc))
theorem Low.rev {x : Str} (h : Low x) : Low ⟨x.cps.toList.reverse.toArray⟩ := fun c hc => h c (by simpa using hc)
theorem z_len : (Str.ofString "z").length = 1 := by decide +kernel
theorem z_low : Low (S "z") := by unfold Low; decide +kernel
structure NV (cell : Int) (c : Addr) (V : MVars) : Prop where
  v0 : V 0 = some (.int cell)
  v2 : V 2 = some (.str AB)
  v3 : V 3 = some (.ref c)
theorem NV.set {cell : Int} {c : Addr} {V : MVars} (x : NV cell c V) {i : Nat} (h : 4 ≤ i) (v : MV) : NV cell c (setv V i v) :=
  ⟨(Xd (by first | exact nei h rfl | decide)).trans x.v0, (Xd (by first | exact nei h rfl | decide)).trans x.v2, (Xd (by first | exact nei h rfl | decide)).trans x.v3⟩
noncomputable def wordL (more : Int) : List Str := (rangeL 0 (more.fmod 7) 1).map fun j => signS ((more.fdiv 7 + 6 * j).fmod 25)
noncomputable def wordF (more : Int) : Str := Txt.join (S "") (wordL more)
noncomputable def moreF (cell k : Int) : Int := cell.fdiv 2 + k * 48271 * cell.fmod 2
noncomputable def putF (word : Str) (pl : Nat) (y : Str) : Str := { cps := (word.cps.toList.take pl).toArray } ++ S "z" ++ y ++ { cps := (word.cps.toList.drop pl).toArray }
noncomputable def nameF (cell k : Int) : Str := putF (wordF (moreF cell k)) (((moreF cell k).fdiv 175).fmod ((wordF (moreF cell k)).length + 1)).toNat (signS k)
theorem word_signs {more : Int} : ∀ s ∈ wordL more, Low s ∧ s.length = 1 := fun s hs => by
  obtain ⟨j, _, rfl⟩ := List.mem_map.mp hs
  exact ⟨sign_low (fm (by decide)).1 (fm (by decide)).2, rfl⟩
theorem word_len (more : Int) : (wordL more).length ≤ 6 := by
  unfold wordL
  rw [List.length_map, Yn]
  have := fm (a := more) (b := 7) (by decide)
  lia
set_option maxHeartbeats 4000000 in
theorem Ud {Φ : CallSpec} {fz : List Addr} {μ₀ μ : MH} {cell k : Int} {c : Addr} {V : MVars} {names : List Str} {R : MFlow → MVars → MH → Prop} (x : NV cell c V) (v4 : V 4 = some (.int k)) (hk : 0 ≤ k ∧ k < 25) (hc0 : μ₀ c = none) (hcf : c ∉ fz)
    (hx : Ext μ₀ μ) (hc : μ c = some (.list (names.map .str))) (hn : names.length ≤ 100) (h : ∀ μ' V', GoodN (nameF cell k) → NV cell c V' → Ext μ₀ μ' → μ' c = some (.list ((names ++ [nameF cell k]).map .str)) → R .next V' μ') :
    exs G Φ X0 [Yt, Ys, Yb, Ya] fz V R μ := by
  refine seq ?_
  ((try dsimp only [Yt,X6,Qr,Qu,Qs,Qg,Qf,Xa,X7,Qy,Qz,Xj,Qx,X8,X9,Qd,Qq,Qc,Qe,Qv,Xl,Q4,Qp,Qt,Ql,Qb,Qa,Q1,Qh,Q5,Q3,Q0,Q9,Q8,Q7,Q6,Qo,X2,Qm,X3,X4,Qn,args0,Xb,X1,Xf,Xm,Xg,Xi,Qk,X5,Qi,Qj,Qw,Q2,zgz,zgs,zlc,zln,Nat.reduceAdd,kr0,kr1,kl0,kl1,kz0,x.v0,x.v2,x.v3,v4]); (try simp (discharger := decide) only [Yt,X6,Qr,Qu,Qs,Qg,Qf,Xa,X7,Qy,Qz,Xj,Qx,X8,X9,Qd,Qq,Qc,Qe,Qv,Xl,Q4,Qp,Qt,Ql,Qb,Qa,Q1,Qh,Q5,Q3,Q0,Q9,Q8,Q7,Q6,Qo,X2,Qm,X3,X4,Qn,args0,Xb,X1,Xh,Xk,Xc,Xe,Xf,Xm,Xg,Xi,Xr,Xs,Qk,X5,Xn,Xd,Qi,Qj,Qw,Q2,Xu,zoi,zel,zta,zat,zgz,zgs,zlc,zln,Nat.reduceAdd,zza,znt,zcn,MV.int.injEq,kr0,kr1,kl0,kl1,kz0,x.v0,x.v2,x.v3,v4]))
  have hc2 := fm (a := cell) (b := 2) (by decide)
  rw [Xh (by first|exact dn hd rfl|exact dl hd rfl|omega)]
  ((try dsimp only [X6,Qr,Qu,Qs,Qg,Qf,Xa,X7,Qy,Qz,Xj,Qx,X8,X9,Qd,Qq,Qc,Qe,Qv,Xl,Q4,Qp,Qt,Ql,Qb,Qa,Q1,Qh,Q5,Q3,Q0,Q9,Q8,Q7,Q6,Qo,X2,Qm,X3,X4,Qn,args0,Xb,X1,Xf,Xm,Xg,Xi,Qk,X5,Qi,Qj,Qw,Q2,zgz,zgs,zlc,zln,Nat.reduceAdd,kr0,kr1,kl0,kl1,kz0]); (try simp (discharger := decide) only [X6,Qr,Qu,Qs,Qg,Qf,Xa,X7,Qy,Qz,Xj,Qx,X8,X9,Qd,Qq,Qc,Qe,Qv,Xl,Q4,Qp,Qt,Ql,Qb,Qa,Q1,Qh,Q5,Q3,Q0,Q9,Q8,Q7,Q6,Qo,X2,Qm,X3,X4,Qn,args0,Xb,X1,Xh,Xk,Xc,Xe,Xf,Xm,Xg,Xi,Xr,Xs,Qk,X5,Xn,Xd,Qi,Qj,Qw,Q2,Xu,zoi,zel,zta,zat,zgz,zgs,zlc,zln,Nat.reduceAdd,zza,znt,zcn,MV.int.injEq,kr0,kr1,kl0,kl1,kz0]))
  unfold nameF at h
  replace h : ∀ μ' V', GoodN (putF (wordF (cell.fdiv 2 + k * 48271 * cell.fmod 2)) (((cell.fdiv 2 + k * 48271 * cell.fmod 2).fdiv 175).fmod ((wordF (cell.fdiv 2 + k * 48271 * cell.fmod 2)).length + 1)).toNat (signS k)) → NV cell c V' → Ext μ₀ μ' → μ' c = some (.list ((names ++ [putF (wordF (cell.fdiv 2 + k * 48271 * cell.fmod 2)) (((cell.fdiv 2 + k * 48271 * cell.fmod 2).fdiv 175).fmod ((wordF (cell.fdiv 2 + k * 48271 * cell.fmod 2)).length + 1)).toNat (signS k)]).map .str)) → R .next V' μ' := h
  generalize cell.fdiv 2 + k * 48271 * cell.fmod 2 = more at h ⊢
  replace x := x.set (i := 5) (by decide) (.int more)
  have v4' : setv V 5 (.int more) 4 = some (.int k) := (Xd (by first | exact nei h rfl | decide)).trans v4
  have v5 : setv V 5 (.int more) 5 = some (.int more) := Xn
  generalize setv V 5 (.int more) = V at x v4' v5
  refine seq ?_
  have hm7 := fm (a := more) (b := 7) (by decide)
  ((try dsimp only [Ys,X6,Qr,Qu,Qs,Qg,Qf,Xa,X7,Qy,Qz,Xj,Qx,X8,X9,Qd,Qq,Qc,Qe,Qv,Xl,Q4,Qp,Qt,Ql,Qb,Qa,Q1,Qh,Q5,Q3,Q0,Q9,Q8,Q7,Q6,Qo,X2,Qm,X3,X4,Qn,args0,Xb,X1,Xf,Xm,Xg,Xi,Qk,X5,Qi,Qj,Qw,Q2,zgz,zgs,zlc,zln,Nat.reduceAdd,kr0,kr1,kl0,kl1,kz0,x.v0,x.v2,x.v3,v5]); (try simp (discharger := decide) only [Ys,X6,Qr,Qu,Qs,Qg,Qf,Xa,X7,Qy,Qz,Xj,Qx,X8,X9,Qd,Qq,Qc,Qe,Qv,Xl,Q4,Qp,Qt,Ql,Qb,Qa,Q1,Qh,Q5,Q3,Q0,Q9,Q8,Q7,Q6,Qo,X2,Qm,X3,X4,Qn,args0,Xb,X1,Xh,Xk,Xc,Xe,Xf,Xm,Xg,Xi,Xr,Xs,Qk,X5,Xn,Xd,Qi,Qj,Qw,Q2,Xu,zoi,zel,zta,zat,zgz,zgs,zlc,zln,Nat.reduceAdd,zza,znt,zcn,MV.int.injEq,kr0,kr1,kl0,kl1,kz0,x.v0,x.v2,x.v3,v5]))
  refine ⟨rfl, .ints (rangeL 0 (more.fmod 7) 1), _, ?_, rfl, ?_, ?_⟩
  · simp only [mkSrc, rangeM]
    rw [if_pos (by simp only [in62, Bool.and_eq_true, decide_eq_true_eq]; omega)]; rfl
  · rw [List.length_map, Yn]; exact fit (by first|exact dn hd rfl|exact dl hd rfl|lia)
  refine comp_of MV.int (fun _ => true) (fun j => .str (signS ((more.fdiv 7 + 6 * j).fmod 25))) (fun j _ => ⟨_, rfl, fun F hF => hF, fun F hF => ?_⟩) fun c₂ hc₂ hcf₂ => ?_
  · ((try dsimp only [X6,Qr,Qu,Qs,Qg,Qf,Xa,X7,Qy,Qz,Xj,Qx,X8,X9,Qd,Qq,Qc,Qe,Qv,Xl,Q4,Qp,Qt,Ql,Qb,Qa,Q1,Qh,Q5,Q3,Q0,Q9,Q8,Q7,Q6,Qo,X2,Qm,X3,X4,Qn,args0,Xb,X1,Xf,Xm,Xg,Xi,Qk,X5,Qi,Qj,Qw,Q2,zgz,zgs,zlc,zln,Nat.reduceAdd,kr0,kr1,kl0,kl1,kz0,x.v0,x.v2,x.v3,v5]); (try simp (discharger := decide) only [X6,Qr,Qu,Qs,Qg,Qf,Xa,X7,Qy,Qz,Xj,Qx,X8,X9,Qd,Qq,Qc,Qe,Qv,Xl,Q4,Qp,Qt,Ql,Qb,Qa,Q1,Qh,Q5,Q3,Q0,Q9,Q8,Q7,Q6,Qo,X2,Qm,X3,X4,Qn,args0,Xb,X1,Xh,Xk,Xc,Xe,Xf,Xm,Xg,Xi,Xr,Xs,Qk,X5,Xn,Xd,Qi,Qj,Qw,Q2,Xu,zoi,zel,zta,zat,zgz,zgs,zlc,zln,Nat.reduceAdd,zza,znt,zcn,MV.int.injEq,kr0,kr1,kl0,kl1,kz0,x.v0,x.v2,x.v3,v5]))
    exact ⟨_, sign_AB (fm (by decide)).1 (fm (by decide)).2, hF⟩
  have hss := word_signs (more := more)
  have hsl := word_len more
  have hwd : wordF more = Txt.join (S "") (wordL more) := rfl
  rw [hwd] at h
  have hcl : ([] ++ ((rangeL 0 (more.fmod 7) 1).filter fun _ => true).map fun j => MV.str (signS ((more.fdiv 7 + 6 * j).fmod 25))) = (wordL more).map .str := by
    rw [List.nil_append, List.filter_eq_self.mpr fun _ _ => rfl]
    unfold wordL
    rw [List.map_map]; rfl
  rw [hcl]
  generalize wordL more = ss at hss hsl h ⊢
  have hsum : (ss.map (·.length)).sum = ss.length := by
    clear hsl h hcl hwd
    induction ss with
    | nil => rfl
    | cons s ss ih => simp only [List.map_cons, List.sum_cons, List.length_cons, (hss s (.head _)).2, ih fun s hs => hss s (.tail _ hs)]; lia
  refine ⟨ss.map .str, ss, Kg Xo, O0 ss, by decide, by lia, ?_⟩
  have hwl : Low (Txt.join (S "") ss) := Low.join fun s hs => (hss s hs).1
  have hwn : (Txt.join (S "") ss).length = ss.length := len_join fun s hs => (hss s hs).2
  generalize Txt.join (S "") ss = word at hwl hwn h ⊢
  have hcc : c ≠ c₂ := Y3 hc hc₂
  have hx' : Ext μ₀ (upd μ c₂ (.list (ss.map .str))) := hx.trans (Ext.upd hc₂)
  have hc' : upd μ c₂ (.list (ss.map .str)) c = some (.list (names.map .str)) := by rw [Yv hcc]; exact hc
  replace x := x.set (i := 6) (by decide) (.str word)
  have w4 : setv V 6 (.str word) 4 = some (.int k) := (Xd (by first | exact nei h rfl | decide)).trans v4'
  have w5 : setv V 6 (.str word) 5 = some (.int more) := (Xd (by first | exact nei h rfl | decide)).trans v5
  have w6 : setv V 6 (.str word) 6 = some (.str word) := Xn
  show exs G Φ X0 [Yb, Ya] fz (setv V 6 (.str word)) R _
  generalize setv V 6 (.str word) = V at x w4 w5 w6 ⊢
  generalize upd μ c₂ (.list (ss.map .str)) = μ at hx' hc' ⊢
  refine seq ?_
  ((try dsimp only [Yb,X6,Qr,Qu,Qs,Qg,Qf,Xa,X7,Qy,Qz,Xj,Qx,X8,X9,Qd,Qq,Qc,Qe,Qv,Xl,Q4,Qp,Qt,Ql,Qb,Qa,Q1,Qh,Q5,Q3,Q0,Q9,Q8,Q7,Q6,Qo,X2,Qm,X3,X4,Qn,args0,Xb,X1,Xf,Xm,Xg,Xi,Qk,X5,Qi,Qj,Qw,Q2,zgz,zgs,zlc,zln,Nat.reduceAdd,kr0,kr1,kl0,kl1,kz0,w5,w6]); (try simp (discharger := decide) only [Yb,X6,Qr,Qu,Qs,Qg,Qf,Xa,X7,Qy,Qz,Xj,Qx,X8,X9,Qd,Qq,Qc,Qe,Qv,Xl,Q4,Qp,Qt,Ql,Qb,Qa,Q1,Qh,Q5,Q3,Q0,Q9,Q8,Q7,Q6,Qo,X2,Qm,X3,X4,Qn,args0,Xb,X1,Xh,Xk,Xc,Xe,Xf,Xm,Xg,Xi,Xr,Xs,Qk,X5,Xn,Xd,Qi,Qj,Qw,Q2,Xu,zoi,zel,zta,zat,zgz,zgs,zlc,zln,Nat.reduceAdd,zza,znt,zcn,MV.int.injEq,kr0,kr1,kl0,kl1,kz0,w5,w6]))
  rw [bi_len_str]
  refine ⟨fit (by first|exact dn hd rfl|exact dl hd rfl|lia), ?_⟩
  ((try dsimp only [X6,Qr,Qu,Qs,Qg,Qf,Xa,X7,Qy,Qz,Xj,Qx,X8,X9,Qd,Qq,Qc,Qe,Qv,Xl,Q4,Qp,Qt,Ql,Qb,Qa,Q1,Qh,Q5,Q3,Q0,Q9,Q8,Q7,Q6,Qo,X2,Qm,X3,X4,Qn,args0,Xb,X1,Xf,Xm,Xg,Xi,Qk,X5,Qi,Qj,Qw,Q2,zgz,zgs,zlc,zln,Nat.reduceAdd,kr0,kr1,kl0,kl1,kz0]); (try simp (discharger := decide) only [X6,Qr,Qu,Qs,Qg,Qf,Xa,X7,Qy,Qz,Xj,Qx,X8,X9,Qd,Qq,Qc,Qe,Qv,Xl,Q4,Qp,Qt,Ql,Qb,Qa,Q1,Qh,Q5,Q3,Q0,Q9,Q8,Q7,Q6,Qo,X2,Qm,X3,X4,Qn,args0,Xb,X1,Xh,Xk,Xc,Xe,Xf,Xm,Xg,Xi,Xr,Xs,Qk,X5,Xn,Xd,Qi,Qj,Qw,Q2,Xu,zoi,zel,zta,zat,zgz,zgs,zlc,zln,Nat.reduceAdd,zza,znt,zcn,MV.int.injEq,kr0,kr1,kl0,kl1,kz0]))
  rw [Xe (by first|exact dn hd rfl|exact dl hd rfl|simp)]
  have hat := fm (a := more.fdiv 175) (b := (word.length : Int) + 1) (by first|exact dn hd rfl|exact dl hd rfl|simp)
  generalize (more.fdiv 175).fmod ((word.length : Int) + 1) = pl at hat h ⊢
  replace x := x.set (i := 7) (by decide) (.int pl)
  have u4 : setv V 7 (.int pl) 4 = some (.int k) := (Xd (by first | exact nei h rfl | decide)).trans w4
  have u6 : setv V 7 (.int pl) 6 = some (.str word) := (Xd (by first | exact nei h rfl | decide)).trans w6
  have u7 : setv V 7 (.int pl) 7 = some (.int pl) := Xn
  generalize setv V 7 (.int pl) = V at x u4 u6 u7 ⊢
  refine seq ?_
  ((try dsimp only [Ya,X6,Qr,Qu,Qs,Qg,Qf,Xa,X7,Qy,Qz,Xj,Qx,X8,X9,Qd,Qq,Qc,Qe,Qv,Xl,Q4,Qp,Qt,Ql,Qb,Qa,Q1,Qh,Q5,Q3,Q0,Q9,Q8,Q7,Q6,Qo,X2,Qm,X3,X4,Qn,args0,Xb,X1,Xf,Xm,Xg,Xi,Qk,X5,Qi,Qj,Qw,Q2,zgz,zgs,zlc,zln,Nat.reduceAdd,kr0,kr1,kl0,kl1,kz0,x.v3,x.v2,u4,u6,u7]); (try simp (discharger := decide) only [Ya,X6,Qr,Qu,Qs,Qg,Qf,Xa,X7,Qy,Qz,Xj,Qx,X8,X9,Qd,Qq,Qc,Qe,Qv,Xl,Q4,Qp,Qt,Ql,Qb,Qa,Q1,Qh,Q5,Q3,Q0,Q9,Q8,Q7,Q6,Qo,X2,Qm,X3,X4,Qn,args0,Xb,X1,Xh,Xk,Xc,Xe,Xf,Xm,Xg,Xi,Xr,Xs,Qk,X5,Xn,Xd,Qi,Qj,Qw,Q2,Xu,zoi,zel,zta,zat,zgz,zgs,zlc,zln,Nat.reduceAdd,zza,znt,zcn,MV.int.injEq,kr0,kr1,kl0,kl1,kz0,x.v3,x.v2,u4,u6,u7]))
  refine ⟨mk_list hc', ?_⟩
  have hwc := Jw word
  refine At rfl rfl rfl (by simp) (fit (by first|exact dn hd rfl|exact dl hd rfl|lia)) ?_
  rw [A4 _ hat.1 (by first|exact dn hd rfl|exact dl hd rfl|lia), b_adds]
  have l1 : Str.length ⟨(word.cps.toList.take pl.toNat).toArray⟩ = pl.toNat := by simp [Jw]; rw [Jw] at hat; simp at hat; lia
  have lz : (Str.ofString "z").length = 1 := z_len
  refine ⟨fit (by rw [l1, lz]; lia), ?_⟩
  refine ⟨_, sign_AB hk.1 hk.2, ?_⟩
  have hy := sign_low hk.1 hk.2
  have hyl : (signS k).length = 1 := rfl
  unfold putF at h
  generalize signS k = y at hy hyl h ⊢
  rw [b_adds]
  refine ⟨fit (by rw [Yg, l1, hyl, lz]; lia), ?_⟩
  refine At rfl rfl rfl (by simp) (fit (by first|exact dn hd rfl|exact dl hd rfl|lia)) ?_
  rw [A5 _ hat.1 (by first|exact dn hd rfl|exact dl hd rfl|lia), b_adds]
  have l2 : Str.length ⟨(word.cps.toList.drop pl.toNat).toArray⟩ = word.length - pl.toNat := by simp [Jw]
  have hlen : (({ cps := (word.cps.toList.take pl.toNat).toArray } ++ S "z" ++ y ++ { cps := (word.cps.toList.drop pl.toNat).toArray } : Str)).length = word.length + 2 := by
    rw [Yg, Yg, Yg, l1, l2, hyl, lz]; lia
  refine ⟨fit (by rw [Yg, Yg, l1, l2, hyl, lz]; lia), ?_⟩
  have hlow : Low ({ cps := (word.cps.toList.take pl.toNat).toArray } ++ S "z" ++ y ++ { cps := (word.cps.toList.drop pl.toNat).toArray } : Str) := (((hwl.take _).append z_low).append hy).append (hwl.drop _)
  generalize ({ cps := (word.cps.toList.take pl.toNat).toArray } ++ S "z" ++ y ++ { cps := (word.cps.toList.drop pl.toNat).toArray } : Str) = w at hlen hlow h ⊢
  refine ⟨_, hc', hcf, fit (by simp; exact Nat.le_trans (by assumption) (by decide)), ?_⟩
  (try dsimp only [kr0])
  refine J3 (h _ V ⟨by rw [hlen]; simp, by rw [hlen]; simp [*], hlow⟩ x ?_ ?_)
  · intro b o e
    rw [Yv (Y3 e hc0)]; exact hx' b o e
  · rw [Xo]; simp
end Mine
end
section
namespace Mine
open PySem
variable {G : String → Option MV} {Γ : String → Option MFun}
theorem GoodN.rev {x : Str} (h : GoodN x) : GoodN ⟨x.cps.toList.reverse.toArray⟩ := by
  obtain ⟨h1, h2, h3⟩ := h
  refine ⟨?_, ?_, fun c hc => h3 c (by simpa using hc)⟩
  · simpa [Str.length] using h1
  · simpa [Str.length] using h2
theorem GoodN.ok {x : Str} (h : GoodN x) : PyData.strOk x = true := Low.ok (s := x) h.2.2
theorem Ai {μ : MH} {n : Nat} : ∀ {ss : List Str}, (∀ s ∈ ss, PyData.strOk s = true) → (ss.map MV.str).mapM (deep μ n) = some (ss.map PyData.str)
  | [] => fun _ => rfl
  | s :: ss => fun h => by
    have ih := Ai (μ := μ) (n := n) fun s hs => h s (.tail _ hs)
    rw [List.map_cons, List.mapM_cons, ih]
    have : deep μ n (.str s) = some (.str s) := by cases n <;> simp [deep, h s (.head _)]
    rw [this]; rfl
noncomputable def names3 (cell : Int) : List Str := [nameF cell 0, nameF cell 1, nameF cell 2]
noncomputable def revS (x : Str) : Str := ⟨x.cps.toList.reverse.toArray⟩
noncomputable def swapF (cell : Int) : Bool := (cell.fmod 5 == 3) && !((names3 cell).map PyData.str).any (fun y => PyData.eqv y (.str (revS (nameF cell 0))))
noncomputable def namesF (cell : Int) : List Str := if swapF cell then (names3 cell).set 1 (revS (nameF cell 0)) else names3 cell
theorem Ux {d : Nat} {fz : List Addr} {Q : MQ} {μ : MH} {cell : Int} (hΓ : Γ "_law_names" = some Zh) (hd : 1 ≤ d)
    (h : ∀ (c : Addr) (μ' : MH), Ext μ μ' → μ c = none → c ∉ fz → μ' c = some (.list ((namesF cell).map .str)) → (namesF cell).length = 3 → (∀ nm ∈ namesF cell, GoodN nm) → Q (.ref c) μ') : calls G Γ d "_law_names" [.int cell, .int 3] fz Q X0 μ := by
  refine Xx hΓ rfl hd (seq ?_)
  ((try dsimp only [Ja,X6,Qr,Qu,Qs,Qg,Qf,Xa,X7,Qy,Qz,Xj,Qx,X8,X9,Qd,Qq,Qc,Qe,Qv,Xl,Q4,Qp,Qt,Ql,Qb,Qa,Q1,Qh,Q5,Q3,Q0,Q9,Q8,Q7,Q6,Qo,X2,Qm,X3,X4,Qn,args0,Xb,X1,Xf,Xm,Xg,Xi,Qk,X5,Qi,Qj,Qw,Q2,zgz,zgs,zlc,zln,Nat.reduceAdd,kr0,kr1,kl0,kl1,kz0]); (try simp (discharger := decide) only [Ja,X6,Qr,Qu,Qs,Qg,Qf,Xa,X7,Qy,Qz,Xj,Qx,X8,X9,Qd,Qq,Qc,Qe,Qv,Xl,Q4,Qp,Qt,Ql,Qb,Qa,Q1,Qh,Q5,Q3,Q0,Q9,Q8,Q7,Q6,Qo,X2,Qm,X3,X4,Qn,args0,Xb,X1,Xh,Xk,Xc,Xe,Xf,Xm,Xg,Xi,Xr,Xs,Qk,X5,Xn,Xd,Qi,Qj,Qw,Q2,Xu,zoi,zel,zta,zat,zgz,zgs,zlc,zln,Nat.reduceAdd,zza,znt,zcn,MV.int.injEq,kr0,kr1,kl0,kl1,kz0]))
  refine seq ?_
  ((try dsimp only [J9,X6,Qr,Qu,Qs,Qg,Qf,Xa,X7,Qy,Qz,Xj,Qx,X8,X9,Qd,Qq,Qc,Qe,Qv,Xl,Q4,Qp,Qt,Ql,Qb,Qa,Q1,Qh,Q5,Q3,Q0,Q9,Q8,Q7,Q6,Qo,X2,Qm,X3,X4,Qn,args0,Xb,X1,Xf,Xm,Xg,Xi,Qk,X5,Qi,Qj,Qw,Q2,zgz,zgs,zlc,zln,Nat.reduceAdd,kr0,kr1,kl0,kl1,kz0]); (try simp (discharger := decide) only [J9,X6,Qr,Qu,Qs,Qg,Qf,Xa,X7,Qy,Qz,Xj,Qx,X8,X9,Qd,Qq,Qc,Qe,Qv,Xl,Q4,Qp,Qt,Ql,Qb,Qa,Q1,Qh,Q5,Q3,Q0,Q9,Q8,Q7,Q6,Qo,X2,Qm,X3,X4,Qn,args0,Xb,X1,Xh,Xk,Xc,Xe,Xf,Xm,Xg,Xi,Xr,Xs,Qk,X5,Xn,Xd,Qi,Qj,Qw,Q2,Xu,zoi,zel,zta,zat,zgz,zgs,zlc,zln,Nat.reduceAdd,zza,znt,zcn,MV.int.injEq,kr0,kr1,kl0,kl1,kz0]))
  intro c hc hcf
  refine seq ?_
  ((try dsimp only [J8,X6,Qr,Qu,Qs,Qg,Qf,Xa,X7,Qy,Qz,Xj,Qx,X8,X9,Qd,Qq,Qc,Qe,Qv,Xl,Q4,Qp,Qt,Ql,Qb,Qa,Q1,Qh,Q5,Q3,Q0,Q9,Q8,Q7,Q6,Qo,X2,Qm,X3,X4,Qn,args0,Xb,X1,Xf,Xm,Xg,Xi,Qk,X5,Qi,Qj,Qw,Q2,zgz,zgs,zlc,zln,Nat.reduceAdd,kr0,kr1,kl0,kl1,kz0]); (try simp (discharger := decide) only [J8,X6,Qr,Qu,Qs,Qg,Qf,Xa,X7,Qy,Qz,Xj,Qx,X8,X9,Qd,Qq,Qc,Qe,Qv,Xl,Q4,Qp,Qt,Ql,Qb,Qa,Q1,Qh,Q5,Q3,Q0,Q9,Q8,Q7,Q6,Qo,X2,Qm,X3,X4,Qn,args0,Xb,X1,Xh,Xk,Xc,Xe,Xf,Xm,Xg,Xi,Xr,Xs,Qk,X5,Xn,Xd,Qi,Qj,Qw,Q2,Xu,zoi,zel,zta,zat,zgz,zgs,zlc,zln,Nat.reduceAdd,zza,znt,zcn,MV.int.injEq,kr0,kr1,kl0,kl1,kz0]))
  refine ⟨.ints [0, 1, 2], _, rfl, rfl, fit (by decide), ?_⟩
  simp only [List.map_cons, List.map_nil, B4, Ju, Src.held, List.nil_append]
  refine ⟨_, rfl, ?_⟩
  refine Ud (names := []) (c := c) (cell := cell) ⟨rfl, rfl, rfl⟩ Xn (by decide) hc hcf (Ext.upd hc) Xo (by decide) fun μ0 V0 g0 x0 e0 c0 => ?_
  refine ⟨_, rfl, ?_⟩
  refine Ud (x0.set (by first|exact dn hd rfl|exact dl hd rfl|exact Nat.le_refl _) _) Xn (by decide) hc hcf e0 c0 (by simp) fun μ1 V1 g1 x1 e1 c1 => ?_
  refine ⟨_, rfl, ?_⟩
  refine Ud (x1.set (by first|exact dn hd rfl|exact dl hd rfl|exact Nat.le_refl _) _) Xn (by decide) hc hcf e1 c1 (by simp) fun μ2 V2 g2 x2 e2 c2 => ?_
  unfold namesF swapF names3 at h
  replace c2 : μ2 c = some (.list ([nameF cell 0, nameF cell 1, nameF cell 2].map .str)) := c2
  clear c1 c0 e1 e0 x1 x0
  generalize nameF cell 0 = w0 at g0 c2 h
  generalize nameF cell 1 = w1 at g1 c2 h
  generalize nameF cell 2 = w2 at g2 c2 h
  have hall : ∀ nm ∈ [w0, w1, w2], GoodN nm := by
    intro nm hm; simp only [List.mem_cons, List.not_mem_nil, or_false] at hm; rcases hm with rfl | rfl | rfl <;> assumption
  have i0 : idxM μ2 (.ref c) (.int 0) = some (.str w0) := by rw [Kk c2 (show 3 ≤ 2 ^ 20 by decide)]; rfl
  have fin : ∀ b : Bool, ((cell.fmod 5 == 3) && !([w0, w1, w2].map PyData.str).any fun y => PyData.eqv y (.str (revS w0))) = b → b = false → exs G (calls G Γ (d - 1)) X0 [Yd] fz V2 (kz Q) μ2 := fun b hb hf => by
    rw [hb, hf] at h
    refine seq ?_
    ((try dsimp only [Yd,X6,Qr,Qu,Qs,Qg,Qf,Xa,X7,Qy,Qz,Xj,Qx,X8,X9,Qd,Qq,Qc,Qe,Qv,Xl,Q4,Qp,Qt,Ql,Qb,Qa,Q1,Qh,Q5,Q3,Q0,Q9,Q8,Q7,Q6,Qo,X2,Qm,X3,X4,Qn,args0,Xb,X1,Xf,Xm,Xg,Xi,Qk,X5,Qi,Qj,Qw,Q2,zgz,zgs,zlc,zln,Nat.reduceAdd,kr0,kr1,kl0,kl1,kz0,x2.v3]); (try simp (discharger := decide) only [Yd,X6,Qr,Qu,Qs,Qg,Qf,Xa,X7,Qy,Qz,Xj,Qx,X8,X9,Qd,Qq,Qc,Qe,Qv,Xl,Q4,Qp,Qt,Ql,Qb,Qa,Q1,Qh,Q5,Q3,Q0,Q9,Q8,Q7,Q6,Qo,X2,Qm,X3,X4,Qn,args0,Xb,X1,Xh,Xk,Xc,Xe,Xf,Xm,Xg,Xi,Xr,Xs,Qk,X5,Xn,Xd,Qi,Qj,Qw,Q2,Xu,zoi,zel,zta,zat,zgz,zgs,zlc,zln,Nat.reduceAdd,zza,znt,zcn,MV.int.injEq,kr0,kr1,kl0,kl1,kz0,x2.v3]))
    exact h c μ2 e2 hc hcf c2 rfl hall
  refine seq ?_
  ((try dsimp only [J7,X6,Qr,Qu,Qs,Qg,Qf,Xa,X7,Qy,Qz,Xj,Qx,X8,X9,Qd,Qq,Qc,Qe,Qv,Xl,Q4,Qp,Qt,Ql,Qb,Qa,Q1,Qh,Q5,Q3,Q0,Q9,Q8,Q7,Q6,Qo,X2,Qm,X3,X4,Qn,args0,Xb,X1,Xf,Xm,Xg,Xi,Qk,X5,Qi,Qj,Qw,Q2,zgz,zgs,zlc,zln,Nat.reduceAdd,kr0,kr1,kl0,kl1,kz0,x2.v0,x2.v3]); (try simp (discharger := decide) only [J7,X6,Qr,Qu,Qs,Qg,Qf,Xa,X7,Qy,Qz,Xj,Qx,X8,X9,Qd,Qq,Qc,Qe,Qv,Xl,Q4,Qp,Qt,Ql,Qb,Qa,Q1,Qh,Q5,Q3,Q0,Q9,Q8,Q7,Q6,Qo,X2,Qm,X3,X4,Qn,args0,Xb,X1,Xh,Xk,Xc,Xe,Xf,Xm,Xg,Xi,Xr,Xs,Qk,X5,Xn,Xd,Qi,Qj,Qw,Q2,Xu,zoi,zel,zta,zat,zgz,zgs,zlc,zln,Nat.reduceAdd,zza,znt,zcn,MV.int.injEq,kr0,kr1,kl0,kl1,kz0,x2.v0,x2.v3]))
  cases q5 : (cell.fmod 5 == 3) with
  | false =>
    simp only [Bool.false_eq_true, if_false]
    exact J3 (fin _ rfl (by rw [q5]; rfl))
  | true =>
    simp only [if_true]
    ((try dsimp only [X6,Qr,Qu,Qs,Qg,Qf,Xa,X7,Qy,Qz,Xj,Qx,X8,X9,Qd,Qq,Qc,Qe,Qv,Xl,Q4,Qp,Qt,Ql,Qb,Qa,Q1,Qh,Q5,Q3,Q0,Q9,Q8,Q7,Q6,Qo,X2,Qm,X3,X4,Qn,args0,Xb,X1,Xf,Xm,Xg,Xi,Qk,X5,Qi,Qj,Qw,Q2,zgz,zgs,zlc,zln,Nat.reduceAdd,kr0,kr1,kl0,kl1,kz0,x2.v3,i0]); (try simp (discharger := decide) only [X6,Qr,Qu,Qs,Qg,Qf,Xa,X7,Qy,Qz,Xj,Qx,X8,X9,Qd,Qq,Qc,Qe,Qv,Xl,Q4,Qp,Qt,Ql,Qb,Qa,Q1,Qh,Q5,Q3,Q0,Q9,Q8,Q7,Q6,Qo,X2,Qm,X3,X4,Qn,args0,Xb,X1,Xh,Xk,Xc,Xe,Xf,Xm,Xg,Xi,Xr,Xs,Qk,X5,Xn,Xd,Qi,Qj,Qw,Q2,Xu,zoi,zel,zta,zat,zgz,zgs,zlc,zln,Nat.reduceAdd,zza,znt,zcn,MV.int.injEq,kr0,kr1,kl0,kl1,kz0,x2.v3,i0]))
    refine At rfl rfl rfl (by simp) (fit (Nat.le_trans g0.2.1 (by decide))) ?_
    rw [pick_rev]
    have hr := g0.rev
    replace h : ∀ (c : Addr) (μ' : MH), Ext μ μ' → μ c = none → c ∉ fz → μ' c = some (.list ((if ((cell.fmod 5 == 3) && !([w0, w1, w2].map PyData.str).any fun y => PyData.eqv y (.str ⟨w0.cps.toList.reverse.toArray⟩)) = true then [w0, w1, w2].set 1 ⟨w0.cps.toList.reverse.toArray⟩ else [w0, w1, w2]).map .str)) → (if ((cell.fmod 5 == 3) && !([w0, w1, w2].map PyData.str).any fun y => PyData.eqv y (.str ⟨w0.cps.toList.reverse.toArray⟩)) = true then [w0, w1, w2].set 1 ⟨w0.cps.toList.reverse.toArray⟩ else [w0, w1, w2]).length = 3 → (∀ nm ∈ if ((cell.fmod 5 == 3) && !([w0, w1, w2].map PyData.str).any fun y => PyData.eqv y (.str ⟨w0.cps.toList.reverse.toArray⟩)) = true then [w0, w1, w2].set 1 ⟨w0.cps.toList.reverse.toArray⟩ else [w0, w1, w2], GoodN nm) → Q (.ref c) μ' := h
    have hd1 : deep μ2 9 (.ref c) = some (.list ([w0, w1, w2].map .str)) := by
      simp only [deep, Kg c2, Ai fun s hs => (hall s hs).ok]; rfl
    have hd2 : deep μ2 9 (.str ⟨w0.cps.toList.reverse.toArray⟩) = some (.str ⟨w0.cps.toList.reverse.toArray⟩) := by simp only [deep, hr.ok]; rfl
    refine ⟨_, congrArg (Option.map (!·)) (in_list c2 hd1 hd2), ?_⟩
    cases q : ([w0, w1, w2].map PyData.str).any fun y => PyData.eqv y (.str ⟨w0.cps.toList.reverse.toArray⟩) with
    | true =>
      simp only [Bool.not_true, Bool.false_eq_true, if_false]
      exact J3 (fin _ rfl (by rw [show revS w0 = ⟨w0.cps.toList.reverse.toArray⟩ from rfl, q, Bool.not_true, Bool.and_false]))
    | false =>
      rw [q5, q] at h
      simp only [Bool.not_false, if_true]
      refine seq ?_
      ((try dsimp only [Zk,X6,Qr,Qu,Qs,Qg,Qf,Xa,X7,Qy,Qz,Xj,Qx,X8,X9,Qd,Qq,Qc,Qe,Qv,Xl,Q4,Qp,Qt,Ql,Qb,Qa,Q1,Qh,Q5,Q3,Q0,Q9,Q8,Q7,Q6,Qo,X2,Qm,X3,X4,Qn,args0,Xb,X1,Xf,Xm,Xg,Xi,Qk,X5,Qi,Qj,Qw,Q2,zgz,zgs,zlc,zln,Nat.reduceAdd,kr0,kr1,kl0,kl1,kz0,x2.v3,i0]); (try simp (discharger := decide) only [Zk,X6,Qr,Qu,Qs,Qg,Qf,Xa,X7,Qy,Qz,Xj,Qx,X8,X9,Qd,Qq,Qc,Qe,Qv,Xl,Q4,Qp,Qt,Ql,Qb,Qa,Q1,Qh,Q5,Q3,Q0,Q9,Q8,Q7,Q6,Qo,X2,Qm,X3,X4,Qn,args0,Xb,X1,Xh,Xk,Xc,Xe,Xf,Xm,Xg,Xi,Xr,Xs,Qk,X5,Xn,Xd,Qi,Qj,Qw,Q2,Xu,zoi,zel,zta,zat,zgz,zgs,zlc,zln,Nat.reduceAdd,zza,znt,zcn,MV.int.injEq,kr0,kr1,kl0,kl1,kz0,x2.v3,i0]))
      refine At rfl rfl rfl (by simp) (fit (Nat.le_trans g0.2.1 (by decide))) ?_
      rw [pick_rev]
      clear fin hd1 hd2 q
      generalize (⟨w0.cps.toList.reverse.toArray⟩ : Str) = rv at hr h ⊢
      refine set_list c2 hcf (fit (show 3 ≤ 100000 by decide)) (by decide) (show (1 : Int) < 3 by decide) (J3 (seq ?_))
      ((try dsimp only [Yd,X6,Qr,Qu,Qs,Qg,Qf,Xa,X7,Qy,Qz,Xj,Qx,X8,X9,Qd,Qq,Qc,Qe,Qv,Xl,Q4,Qp,Qt,Ql,Qb,Qa,Q1,Qh,Q5,Q3,Q0,Q9,Q8,Q7,Q6,Qo,X2,Qm,X3,X4,Qn,args0,Xb,X1,Xf,Xm,Xg,Xi,Qk,X5,Qi,Qj,Qw,Q2,zgz,zgs,zlc,zln,Nat.reduceAdd,kr0,kr1,kl0,kl1,kz0,x2.v3]); (try simp (discharger := decide) only [Yd,X6,Qr,Qu,Qs,Qg,Qf,Xa,X7,Qy,Qz,Xj,Qx,X8,X9,Qd,Qq,Qc,Qe,Qv,Xl,Q4,Qp,Qt,Ql,Qb,Qa,Q1,Qh,Q5,Q3,Q0,Q9,Q8,Q7,Q6,Qo,X2,Qm,X3,X4,Qn,args0,Xb,X1,Xh,Xk,Xc,Xe,Xf,Xm,Xg,Xi,Xr,Xs,Qk,X5,Xn,Xd,Qi,Qj,Qw,Q2,Xu,zoi,zel,zta,zat,zgz,zgs,zlc,zln,Nat.reduceAdd,zza,znt,zcn,MV.int.injEq,kr0,kr1,kl0,kl1,kz0,x2.v3]))
      refine h c _ (fun b o e => by rw [Yv (Y3 e hc)]; exact e2 b o e) hc hcf (by rw [Xo]; rfl) rfl fun nm hm => ?_
      rcases List.mem_or_eq_of_mem_set hm with q | rfl
      · exact hall _ q
      · exact hr
theorem law_names_spec {d : Nat} {fz : List Addr} {Q : MQ} {μ : MH} {cell : Int} (hΓ : Γ "_law_names" = some Zh) (hd : 1 ≤ d)
    (h : ∀ (c : Addr) (μ' : MH) (names : List Str), Ext μ μ' → μ c = none → c ∉ fz → μ' c = some (.list (names.map .str)) → names.length = 3 → (∀ nm ∈ names, GoodN nm) → Q (.ref c) μ') : calls G Γ d "_law_names" [.int cell, .int 3] fz Q X0 μ :=
  Ux hΓ hd fun c μ' => h c μ' (namesF cell)
end Mine
end
section
namespace Mine
open PySem
variable {G : String → Option MV} {Γ : String → Option MFun}
noncomputable def gapOf (ns : List Int) : Int := 1 + ((at0 ns 0).fdiv 4).fmod 3
noncomputable def manyOf (ns : List Int) (many : Int) : Nat := (min many ((ns.length : Int) - 4)).toNat
noncomputable def BookOk (ns : List Int) (many : Int) (kvs : List (Int × MV)) : Prop :=
  ∃ (names : List Str) (rows : List (Int × MV)) (cut : Nat), names.length = 3 ∧ (∀ nm ∈ names, GoodN nm) ∧ rows.map (·.1) = (List.range (manyOf ns many)).map (fun (k : Nat) => 1 + (k : Int) * gapOf ns) ∧ (∀ p ∈ rows, GoodE names p.1 p.2) ∧
    cut ≤ rows.length ∧ kvs = rows.drop cut ++ rows.take cut ∧ names = namesF (at0 ns 1)
noncomputable def rowV (p : Int × MV) : MV := .tup [.int p.1, p.2]
theorem O7 : ∀ (l : List (Int × MV)), pairsI (l.map rowV) = some l
  | [] => rfl
  | p :: l => by
    have := O7 l
    unfold pairsI at this ⊢
    rw [List.map_cons, List.mapM_cons, this]; rfl
theorem put_new {K : Type} [DecidableEq K] {l : List (K × MV)} {k : K} {v : MV} (h : k ∉ l.map (·.1)) : putI l k v = l ++ [(k, v)] := by
  unfold putI
  rw [if_neg]
  simp only [List.any_eq_true, decide_eq_true_eq, not_exists, not_and]
  exact fun p hp e => h (e ▸ List.mem_map_of_mem hp)
theorem put_all {K : Type} [DecidableEq K] : ∀ {l acc : List (K × MV)}, ((acc ++ l).map (·.1)).Nodup → l.foldl (fun d kv => putI d kv.1 kv.2) acc = acc ++ l
  | [], acc => fun _ => by simp
  | p :: l, acc => fun h => by
    have hp : p.1 ∉ acc.map (·.1) := by
      rw [List.map_append, List.nodup_append] at h
      exact fun m => h.2.2 _ m _ (by simp) rfl
    rw [List.foldl_cons, put_new hp, put_all (by simpa using h)]
    simp
structure BV (a nm r : Addr) (gap : Int) (V : MVars) : Prop where
  v0 : V 0 = some (.ref a)
  v2 : V 2 = some (.ref nm)
  v3 : V 3 = some (.int gap)
  v4 : V 4 = some (.ref r)
theorem BV.set {a nm r : Addr} {gap : Int} {V : MVars} (x : BV a nm r gap V) {i : Nat} (h : 5 ≤ i) (v : MV) : BV a nm r gap (setv V i v) :=
  ⟨(Xd (by first | exact nei h rfl | decide)).trans x.v0, (Xd (by first | exact nei h rfl | decide)).trans x.v2, (Xd (by first | exact nei h rfl | decide)).trans x.v3, (Xd (by first | exact nei h rfl | decide)).trans x.v4⟩
theorem base_rng (ns : List Int) : 0 ≤ baseOf ns ∧ baseOf ns ≤ 1000000 := by
  have := Av (l := [0, 7, 300, 999982]) (k := (at0 ns 0).fmod 4) (fm (by decide)).1 (fm (b := 4) (by decide)).2
  unfold baseOf
  exact of_decide_eq_true (all_of (P := fun y => decide (0 ≤ y ∧ y ≤ 1000000)) this rfl)
theorem Bf (ns : List Int) : 1 ≤ gapOf ns ∧ gapOf ns ≤ 3 := by
  have := fm (a := (at0 ns 0).fdiv 4) (b := 3) (by decide)
  unfold gapOf; omega
theorem at_script {μ : MH} {a : Addr} {ns : List Int} {k : Int} (ha : μ a = some (.list (ns.map .int))) (hn : ns.length ≤ 63) (h0 : 0 ≤ k) (h1 : k < ns.length) {Q : MV → Prop} (h : Q (.int (at0 ns k))) : ∃ v, idxM μ (.ref a) (.int k) = some v ∧ Q v :=
  ⟨_, by rw [Kk ha (by simp; exact Nat.le_trans (by assumption) (by decide))]; exact sel_at h0 h1, h⟩
theorem Py {d : Nat} {a nm r : Addr} {fz : List Addr} {μ₁ : MH} {ns : List Int} {names : List Str} {R : MFlow → MVars → MH → Prop} (hΓ₁ : Γ "_law_of" = some Jm) (hΓ₂ : Γ "_law_base" = some J0) (hΓ₃ : Γ "_law_entry" = some Zi) (hd : 2 ≤ d)
    (ha : μ₁ a = some (.list (ns.map .int))) (hn : ns.length ≤ 63) (hnm : μ₁ nm = some (.list (names.map .str))) (h3 : names.length = 3) (hr : μ₁ r = none) (hrf : r ∉ fz) :
    ∀ (j i : Nat) (V : MVars) (μ : MH) (rows : List (Int × MV)), (j = 0 ∨ (i : Int) + j ≤ (ns.length : Int) - 4) → i + j ≤ 100 → BV a nm r (gapOf ns) V → Ext μ₁ μ → μ r = some (.list (rows.map rowV)) → rows.map (·.1) = (List.range i).map (fun (k : Nat) => 1 + (k : Int) * gapOf ns) → (∀ p ∈ rows, GoodE names p.1 p.2) →
      (∀ (V' : MVars) (μ' : MH) (rows' : List (Int × MV)), BV a nm r (gapOf ns) V' → Ext μ₁ μ' → μ' r = some (.list (rows'.map rowV)) → rows'.map (·.1) = (List.range (i + j)).map (fun (k : Nat) => 1 + (k : Int) * gapOf ns) → (∀ p ∈ rows', GoodE names p.1 p.2) → R .next V' μ') →
      loopM (.one 5) (fun vs F μ => exs G (calls G Γ d) X0 [Z2, Z1] fz vs F μ) R ((List.range' i j).map fun (k : Nat) => MV.int k) V μ
  | 0 => fun i V μ rows _ _ x hx hm hk hg h => by
    simp only [List.range'_zero, List.map_nil, B4, Ju]
    exact h V μ rows x hx hm hk hg
  | j + 1 => fun i V μ rows hj hs x hx hm hk hg h => by
    simp only [List.range'_succ, List.map_cons, B4, Ju]
    refine ⟨_, rfl, ?_⟩
    have gp := Bf ns
    have hlen : rows.length = i := by have := congrArg List.length hk; simpa using this
    replace x := x.set (i := 5) (by decide) (.int i)
    have v5 : setv V 5 (.int i) 5 = some (.int i) := Xn
    generalize setv V 5 (.int i) = V at x v5 ⊢
    refine seq ?_
    ((try dsimp only [Z2,X6,Qr,Qu,Qs,Qg,Qf,Xa,X7,Qy,Qz,Xj,Qx,X8,X9,Qd,Qq,Qc,Qe,Qv,Xl,Q4,Qp,Qt,Ql,Qb,Qa,Q1,Qh,Q5,Q3,Q0,Q9,Q8,Q7,Q6,Qo,X2,Qm,X3,X4,Qn,args0,Xb,X1,Xf,Xm,Xg,Xi,Qk,X5,Qi,Qj,Qw,Q2,zgz,zgs,zlc,zln,Nat.reduceAdd,kr0,kr1,kl0,kl1,kz0,x.v3,v5]); (try simp (discharger := decide) only [Z2,X6,Qr,Qu,Qs,Qg,Qf,Xa,X7,Qy,Qz,Xj,Qx,X8,X9,Qd,Qq,Qc,Qe,Qv,Xl,Q4,Qp,Qt,Ql,Qb,Qa,Q1,Qh,Q5,Q3,Q0,Q9,Q8,Q7,Q6,Qo,X2,Qm,X3,X4,Qn,args0,Xb,X1,Xh,Xk,Xc,Xe,Xf,Xm,Xg,Xi,Xr,Xs,Qk,X5,Xn,Xd,Qi,Qj,Qw,Q2,Xu,zoi,zel,zta,zat,zgz,zgs,zlc,zln,Nat.reduceAdd,zza,znt,zcn,MV.int.injEq,kr0,kr1,kl0,kl1,kz0,x.v3,v5]))
    rw [Xh (by first|exact dn hd rfl|exact dl hd rfl|lia)]
    ((try dsimp only [X6,Qr,Qu,Qs,Qg,Qf,Xa,X7,Qy,Qz,Xj,Qx,X8,X9,Qd,Qq,Qc,Qe,Qv,Xl,Q4,Qp,Qt,Ql,Qb,Qa,Q1,Qh,Q5,Q3,Q0,Q9,Q8,Q7,Q6,Qo,X2,Qm,X3,X4,Qn,args0,Xb,X1,Xf,Xm,Xg,Xi,Qk,X5,Qi,Qj,Qw,Q2,zgz,zgs,zlc,zln,Nat.reduceAdd,kr0,kr1,kl0,kl1,kz0]); (try simp (discharger := decide) only [X6,Qr,Qu,Qs,Qg,Qf,Xa,X7,Qy,Qz,Xj,Qx,X8,X9,Qd,Qq,Qc,Qe,Qv,Xl,Q4,Qp,Qt,Ql,Qb,Qa,Q1,Qh,Q5,Q3,Q0,Q9,Q8,Q7,Q6,Qo,X2,Qm,X3,X4,Qn,args0,Xb,X1,Xh,Xk,Xc,Xe,Xf,Xm,Xg,Xi,Xr,Xs,Qk,X5,Xn,Xd,Qi,Qj,Qw,Q2,Xu,zoi,zel,zta,zat,zgz,zgs,zlc,zln,Nat.reduceAdd,zza,znt,zcn,MV.int.injEq,kr0,kr1,kl0,kl1,kz0]))
    have hnum : 1 ≤ 1 + (i : Int) * gapOf ns ∧ 1 + (i : Int) * gapOf ns ≤ 1000 := by
      have h1 : 0 ≤ (i : Int) * gapOf ns := Int.mul_nonneg (by first|exact dn hd rfl|exact dl hd rfl|exact Int.natCast_nonneg _) (by first|exact dn hd rfl|exact dl hd rfl|lia)
      have h2 : (i : Int) * gapOf ns ≤ (i : Int) * 3 := Int.mul_le_mul_of_nonneg_left gp.2 (by first|exact dn hd rfl|exact dl hd rfl|exact Int.natCast_nonneg _)
      lia
    generalize hno : 1 + (i : Int) * gapOf ns = number at hnum
    replace x := x.set (i := 6) (by decide) (.int number)
    have w5 : setv V 6 (.int number) 5 = some (.int i) := (Xd (by first | exact nei h rfl | decide)).trans v5
    have w6 : setv V 6 (.int number) 6 = some (.int number) := Xn
    generalize setv V 6 (.int number) = V at x w5 w6 ⊢
    refine seq ?_
    ((try dsimp only [Z1,X6,Qr,Qu,Qs,Qg,Qf,Xa,X7,Qy,Qz,Xj,Qx,X8,X9,Qd,Qq,Qc,Qe,Qv,Xl,Q4,Qp,Qt,Ql,Qb,Qa,Q1,Qh,Q5,Q3,Q0,Q9,Q8,Q7,Q6,Qo,X2,Qm,X3,X4,Qn,args0,Xb,X1,Xf,Xm,Xg,Xi,Qk,X5,Qi,Qj,Qw,Q2,zgz,zgs,zlc,zln,Nat.reduceAdd,kr0,kr1,kl0,kl1,kz0,x.v0,x.v2,x.v3,x.v4,w5,w6]); (try simp (discharger := decide) only [Z1,X6,Qr,Qu,Qs,Qg,Qf,Xa,X7,Qy,Qz,Xj,Qx,X8,X9,Qd,Qq,Qc,Qe,Qv,Xl,Q4,Qp,Qt,Ql,Qb,Qa,Q1,Qh,Q5,Q3,Q0,Q9,Q8,Q7,Q6,Qo,X2,Qm,X3,X4,Qn,args0,Xb,X1,Xh,Xk,Xc,Xe,Xf,Xm,Xg,Xi,Xr,Xs,Qk,X5,Xn,Xd,Qi,Qj,Qw,Q2,Xu,zoi,zel,zta,zat,zgz,zgs,zlc,zln,Nat.reduceAdd,zza,znt,zcn,MV.int.injEq,kr0,kr1,kl0,kl1,kz0,x.v0,x.v2,x.v3,x.v4,w5,w6]))
    refine ⟨mk_list hm, ?_⟩
    refine Ph hΓ₁ hΓ₂ hd (hx _ _ ha) hn fun μ₂ hx₂ => ?_
    ((try dsimp only [X6,Qr,Qu,Qs,Qg,Qf,Xa,X7,Qy,Qz,Xj,Qx,X8,X9,Qd,Qq,Qc,Qe,Qv,Xl,Q4,Qp,Qt,Ql,Qb,Qa,Q1,Qh,Q5,Q3,Q0,Q9,Q8,Q7,Q6,Qo,X2,Qm,X3,X4,Qn,args0,Xb,X1,Xf,Xm,Xg,Xi,Qk,X5,Qi,Qj,Qw,Q2,zgz,zgs,zlc,zln,Nat.reduceAdd,kr0,kr1,kl0,kl1,kz0]); (try simp (discharger := decide) only [X6,Qr,Qu,Qs,Qg,Qf,Xa,X7,Qy,Qz,Xj,Qx,X8,X9,Qd,Qq,Qc,Qe,Qv,Xl,Q4,Qp,Qt,Ql,Qb,Qa,Q1,Qh,Q5,Q3,Q0,Q9,Q8,Q7,Q6,Qo,X2,Qm,X3,X4,Qn,args0,Xb,X1,Xh,Xk,Xc,Xe,Xf,Xm,Xg,Xi,Xr,Xs,Qk,X5,Xn,Xd,Qi,Qj,Qw,Q2,Xu,zoi,zel,zta,zat,zgz,zgs,zlc,zln,Nat.reduceAdd,zza,znt,zcn,MV.int.injEq,kr0,kr1,kl0,kl1,kz0]))
    refine at_script (hx₂ _ _ (hx _ _ ha)) hn (by first|exact dn hd rfl|exact dl hd rfl|exact Int.natCast_nonneg _) (by first|exact dn hd rfl|exact dl hd rfl|lia) ?_
    ((try dsimp only [X6,Qr,Qu,Qs,Qg,Qf,Xa,X7,Qy,Qz,Xj,Qx,X8,X9,Qd,Qq,Qc,Qe,Qv,Xl,Q4,Qp,Qt,Ql,Qb,Qa,Q1,Qh,Q5,Q3,Q0,Q9,Q8,Q7,Q6,Qo,X2,Qm,X3,X4,Qn,args0,Xb,X1,Xf,Xm,Xg,Xi,Qk,X5,Qi,Qj,Qw,Q2,zgz,zgs,zlc,zln,Nat.reduceAdd,kr0,kr1,kl0,kl1,kz0]); (try simp (discharger := decide) only [X6,Qr,Qu,Qs,Qg,Qf,Xa,X7,Qy,Qz,Xj,Qx,X8,X9,Qd,Qq,Qc,Qe,Qv,Xl,Q4,Qp,Qt,Ql,Qb,Qa,Q1,Qh,Q5,Q3,Q0,Q9,Q8,Q7,Q6,Qo,X2,Qm,X3,X4,Qn,args0,Xb,X1,Xh,Xk,Xc,Xe,Xf,Xm,Xg,Xi,Xr,Xs,Qk,X5,Xn,Xd,Qi,Qj,Qw,Q2,Xu,zoi,zel,zta,zat,zgz,zgs,zlc,zln,Nat.reduceAdd,zza,znt,zcn,MV.int.injEq,kr0,kr1,kl0,kl1,kz0]))
    refine Oe hΓ₃ (by first|exact dn hd rfl|exact dl hd rfl|omega) (hx₂ _ _ (hx _ _ hnm)) h3 (base_rng ns) hnum fun e μ₃ hx₃ ge => ?_
    have hm₃ := hx₃ _ _ (hx₂ _ _ hm)
    ((try dsimp only [X6,Qr,Qu,Qs,Qg,Qf,Xa,X7,Qy,Qz,Xj,Qx,X8,X9,Qd,Qq,Qc,Qe,Qv,Xl,Q4,Qp,Qt,Ql,Qb,Qa,Q1,Qh,Q5,Q3,Q0,Q9,Q8,Q7,Q6,Qo,X2,Qm,X3,X4,Qn,args0,Xb,X1,Xf,Xm,Xg,Xi,Qk,X5,Qi,Qj,Qw,Q2,zgz,zgs,zlc,zln,Nat.reduceAdd,kr0,kr1,kl0,kl1,kz0]); (try simp (discharger := decide) only [X6,Qr,Qu,Qs,Qg,Qf,Xa,X7,Qy,Qz,Xj,Qx,X8,X9,Qd,Qq,Qc,Qe,Qv,Xl,Q4,Qp,Qt,Ql,Qb,Qa,Q1,Qh,Q5,Q3,Q0,Q9,Q8,Q7,Q6,Qo,X2,Qm,X3,X4,Qn,args0,Xb,X1,Xh,Xk,Xc,Xe,Xf,Xm,Xg,Xi,Xr,Xs,Qk,X5,Xn,Xd,Qi,Qj,Qw,Q2,Xu,zoi,zel,zta,zat,zgz,zgs,zlc,zln,Nat.reduceAdd,zza,znt,zcn,MV.int.injEq,kr0,kr1,kl0,kl1,kz0]))
    refine ⟨_, hm₃, hrf, fit (by simp; lia), ?_⟩
    (try dsimp only [kr0])
    refine J3 (Py hΓ₁ hΓ₂ hΓ₃ hd ha hn hnm h3 hr hrf j (i + 1) V _ (rows ++ [(number, e)]) (by first|exact dn hd rfl|exact dl hd rfl|lia) (by first|exact dn hd rfl|exact dl hd rfl|lia) x ?_ ?_ ?_ ?_ ?_)
    · intro b o eb
      rw [Yv (Y3 eb hr)]; exact hx₃ _ _ (hx₂ _ _ (hx b o eb))
    · rw [Xo]; simp [rowV]
    · rw [List.range_succ, List.map_append, List.map_append, hk]; simp [hno]
    · intro p hp
      rcases List.mem_append.mp hp with q | q
      · exact hg p q
      · simp at q; subst q; exact ge
    · intro V' μ' rows' x' hx' hm' hk' hg'
      exact h V' μ' rows' x' hx' hm' (by rw [hk']; congr 2; lia) hg'
theorem O5 {n : Int} : (rangeL 0 n 1).map MV.int = (List.range' 0 n.toNat).map fun (k : Nat) => MV.int k := by
  unfold rangeL
  rw [List.map_map, List.range_eq_range']
  have : ((n - 0 + 1 - 1) / 1).toNat = n.toNat := by simp
  rw [this]
  refine List.map_congr_left fun k _ => ?_
  simp
theorem Pg {d : Nat} {a : Addr} {fz : List Addr} {Q : MQ} {μ : MH} {ns : List Int} {many : Int} (hΓ₁ : Γ "_law_of" = some Jm) (hΓ₂ : Γ "_law_base" = some J0) (hΓ₃ : Γ "_law_entry" = some Zi) (hΓ₄ : Γ "_law_names" = some Zh) (hΓ : Γ "_law_book" = some Uo) (hd : 3 ≤ d)
    (ha : μ a = some (.list (ns.map .int))) (hn : ns.length ≤ 63) (hmany : 0 ≤ many ∧ many ≤ 60)
    (h : ∀ (c : Addr) (μ' : MH) (kvs : List (Int × MV)), Ext μ μ' → μ c = none → c ∉ fz → μ' c = some (.idict kvs) → BookOk ns many kvs → Q (.ref c) μ') : calls G Γ d "_law_book" [.ref a, .int many] fz Q X0 μ := by
  refine Xx hΓ rfl (by first|exact dn hd rfl|exact dl hd rfl|omega) (seq ?_)
  ((try dsimp only [K7,X6,Qr,Qu,Qs,Qg,Qf,Xa,X7,Qy,Qz,Xj,Qx,X8,X9,Qd,Qq,Qc,Qe,Qv,Xl,Q4,Qp,Qt,Ql,Qb,Qa,Q1,Qh,Q5,Q3,Q0,Q9,Q8,Q7,Q6,Qo,X2,Qm,X3,X4,Qn,args0,Xb,X1,Xf,Xm,Xg,Xi,Qk,X5,Qi,Qj,Qw,Q2,zgz,zgs,zlc,zln,Nat.reduceAdd,kr0,kr1,kl0,kl1,kz0]); (try simp (discharger := decide) only [K7,X6,Qr,Qu,Qs,Qg,Qf,Xa,X7,Qy,Qz,Xj,Qx,X8,X9,Qd,Qq,Qc,Qe,Qv,Xl,Q4,Qp,Qt,Ql,Qb,Qa,Q1,Qh,Q5,Q3,Q0,Q9,Q8,Q7,Q6,Qo,X2,Qm,X3,X4,Qn,args0,Xb,X1,Xh,Xk,Xc,Xe,Xf,Xm,Xg,Xi,Xr,Xs,Qk,X5,Xn,Xd,Qi,Qj,Qw,Q2,Xu,zoi,zel,zta,zat,zgz,zgs,zlc,zln,Nat.reduceAdd,zza,znt,zcn,MV.int.injEq,kr0,kr1,kl0,kl1,kz0]))
  refine Yh hΓ₁ (by first|exact dn hd rfl|exact dl hd rfl|omega) ha hn (by decide) fun μ₁ x₁ => ?_
  ((try dsimp only [X6,Qr,Qu,Qs,Qg,Qf,Xa,X7,Qy,Qz,Xj,Qx,X8,X9,Qd,Qq,Qc,Qe,Qv,Xl,Q4,Qp,Qt,Ql,Qb,Qa,Q1,Qh,Q5,Q3,Q0,Q9,Q8,Q7,Q6,Qo,X2,Qm,X3,X4,Qn,args0,Xb,X1,Xf,Xm,Xg,Xi,Qk,X5,Qi,Qj,Qw,Q2,zgz,zgs,zlc,zln,Nat.reduceAdd,kr0,kr1,kl0,kl1,kz0]); (try simp (discharger := decide) only [X6,Qr,Qu,Qs,Qg,Qf,Xa,X7,Qy,Qz,Xj,Qx,X8,X9,Qd,Qq,Qc,Qe,Qv,Xl,Q4,Qp,Qt,Ql,Qb,Qa,Q1,Qh,Q5,Q3,Q0,Q9,Q8,Q7,Q6,Qo,X2,Qm,X3,X4,Qn,args0,Xb,X1,Xh,Xk,Xc,Xe,Xf,Xm,Xg,Xi,Xr,Xs,Qk,X5,Xn,Xd,Qi,Qj,Qw,Q2,Xu,zoi,zel,zta,zat,zgz,zgs,zlc,zln,Nat.reduceAdd,zza,znt,zcn,MV.int.injEq,kr0,kr1,kl0,kl1,kz0]))
  refine Ux hΓ₄ (by first|exact dn hd rfl|exact dl hd rfl|omega) fun nm μ₂ x₂ hnm hnmf hnml h3 hgood => ?_
  generalize hnF : namesF (at0 ns 1) = names at hnml h3 hgood
  refine seq ?_
  ((try dsimp only [K6,X6,Qr,Qu,Qs,Qg,Qf,Xa,X7,Qy,Qz,Xj,Qx,X8,X9,Qd,Qq,Qc,Qe,Qv,Xl,Q4,Qp,Qt,Ql,Qb,Qa,Q1,Qh,Q5,Q3,Q0,Q9,Q8,Q7,Q6,Qo,X2,Qm,X3,X4,Qn,args0,Xb,X1,Xf,Xm,Xg,Xi,Qk,X5,Qi,Qj,Qw,Q2,zgz,zgs,zlc,zln,Nat.reduceAdd,kr0,kr1,kl0,kl1,kz0]); (try simp (discharger := decide) only [K6,X6,Qr,Qu,Qs,Qg,Qf,Xa,X7,Qy,Qz,Xj,Qx,X8,X9,Qd,Qq,Qc,Qe,Qv,Xl,Q4,Qp,Qt,Ql,Qb,Qa,Q1,Qh,Q5,Q3,Q0,Q9,Q8,Q7,Q6,Qo,X2,Qm,X3,X4,Qn,args0,Xb,X1,Xh,Xk,Xc,Xe,Xf,Xm,Xg,Xi,Xr,Xs,Qk,X5,Xn,Xd,Qi,Qj,Qw,Q2,Xu,zoi,zel,zta,zat,zgz,zgs,zlc,zln,Nat.reduceAdd,zza,znt,zcn,MV.int.injEq,kr0,kr1,kl0,kl1,kz0]))
  refine Yh hΓ₁ (by first|exact dn hd rfl|exact dl hd rfl|omega) (x₂ _ _ (x₁ _ _ ha)) hn (by decide) fun μ₃ x₃ => ?_
  ((try dsimp only [X6,Qr,Qu,Qs,Qg,Qf,Xa,X7,Qy,Qz,Xj,Qx,X8,X9,Qd,Qq,Qc,Qe,Qv,Xl,Q4,Qp,Qt,Ql,Qb,Qa,Q1,Qh,Q5,Q3,Q0,Q9,Q8,Q7,Q6,Qo,X2,Qm,X3,X4,Qn,args0,Xb,X1,Xf,Xm,Xg,Xi,Qk,X5,Qi,Qj,Qw,Q2,zgz,zgs,zlc,zln,Nat.reduceAdd,kr0,kr1,kl0,kl1,kz0]); (try simp (discharger := decide) only [X6,Qr,Qu,Qs,Qg,Qf,Xa,X7,Qy,Qz,Xj,Qx,X8,X9,Qd,Qq,Qc,Qe,Qv,Xl,Q4,Qp,Qt,Ql,Qb,Qa,Q1,Qh,Q5,Q3,Q0,Q9,Q8,Q7,Q6,Qo,X2,Qm,X3,X4,Qn,args0,Xb,X1,Xh,Xk,Xc,Xe,Xf,Xm,Xg,Xi,Xr,Xs,Qk,X5,Xn,Xd,Qi,Qj,Qw,Q2,Xu,zoi,zel,zta,zat,zgz,zgs,zlc,zln,Nat.reduceAdd,zza,znt,zcn,MV.int.injEq,kr0,kr1,kl0,kl1,kz0]))
  refine seq ?_
  ((try dsimp only [K5,X6,Qr,Qu,Qs,Qg,Qf,Xa,X7,Qy,Qz,Xj,Qx,X8,X9,Qd,Qq,Qc,Qe,Qv,Xl,Q4,Qp,Qt,Ql,Qb,Qa,Q1,Qh,Q5,Q3,Q0,Q9,Q8,Q7,Q6,Qo,X2,Qm,X3,X4,Qn,args0,Xb,X1,Xf,Xm,Xg,Xi,Qk,X5,Qi,Qj,Qw,Q2,zgz,zgs,zlc,zln,Nat.reduceAdd,kr0,kr1,kl0,kl1,kz0]); (try simp (discharger := decide) only [K5,X6,Qr,Qu,Qs,Qg,Qf,Xa,X7,Qy,Qz,Xj,Qx,X8,X9,Qd,Qq,Qc,Qe,Qv,Xl,Q4,Qp,Qt,Ql,Qb,Qa,Q1,Qh,Q5,Q3,Q0,Q9,Q8,Q7,Q6,Qo,X2,Qm,X3,X4,Qn,args0,Xb,X1,Xh,Xk,Xc,Xe,Xf,Xm,Xg,Xi,Xr,Xs,Qk,X5,Xn,Xd,Qi,Qj,Qw,Q2,Xu,zoi,zel,zta,zat,zgz,zgs,zlc,zln,Nat.reduceAdd,zza,znt,zcn,MV.int.injEq,kr0,kr1,kl0,kl1,kz0]))
  intro r hr hrf
  refine seq ?_
  ((try dsimp only [K4,X6,Qr,Qu,Qs,Qg,Qf,Xa,X7,Qy,Qz,Xj,Qx,X8,X9,Qd,Qq,Qc,Qe,Qv,Xl,Q4,Qp,Qt,Ql,Qb,Qa,Q1,Qh,Q5,Q3,Q0,Q9,Q8,Q7,Q6,Qo,X2,Qm,X3,X4,Qn,args0,Xb,X1,Xf,Xm,Xg,Xi,Qk,X5,Qi,Qj,Qw,Q2,zgz,zgs,zlc,zln,Nat.reduceAdd,kr0,kr1,kl0,kl1,kz0]); (try simp (discharger := decide) only [K4,X6,Qr,Qu,Qs,Qg,Qf,Xa,X7,Qy,Qz,Xj,Qx,X8,X9,Qd,Qq,Qc,Qe,Qv,Xl,Q4,Qp,Qt,Ql,Qb,Qa,Q1,Qh,Q5,Q3,Q0,Q9,Q8,Q7,Q6,Qo,X2,Qm,X3,X4,Qn,args0,Xb,X1,Xh,Xk,Xc,Xe,Xf,Xm,Xg,Xi,Xr,Xs,Qk,X5,Xn,Xd,Qi,Qj,Qw,Q2,Xu,zoi,zel,zta,zat,zgz,zgs,zlc,zln,Nat.reduceAdd,zza,znt,zcn,MV.int.injEq,kr0,kr1,kl0,kl1,kz0]))
  have ha₃ := x₃ _ _ (x₂ _ _ (x₁ _ _ ha))
  refine Nn (by rw [Yv (Y3 ha₃ hr)]; exact ha₃) (fit (by simp; exact Nat.le_trans (by assumption) (by decide))) ?_
  ((try dsimp only [X6,Qr,Qu,Qs,Qg,Qf,Xa,X7,Qy,Qz,Xj,Qx,X8,X9,Qd,Qq,Qc,Qe,Qv,Xl,Q4,Qp,Qt,Ql,Qb,Qa,Q1,Qh,Q5,Q3,Q0,Q9,Q8,Q7,Q6,Qo,X2,Qm,X3,X4,Qn,args0,Xb,X1,Xf,Xm,Xg,Xi,Qk,X5,Qi,Qj,Qw,Q2,zgz,zgs,zlc,zln,Nat.reduceAdd,kr0,kr1,kl0,kl1,kz0]); (try simp (discharger := decide) only [X6,Qr,Qu,Qs,Qg,Qf,Xa,X7,Qy,Qz,Xj,Qx,X8,X9,Qd,Qq,Qc,Qe,Qv,Xl,Q4,Qp,Qt,Ql,Qb,Qa,Q1,Qh,Q5,Q3,Q0,Q9,Q8,Q7,Q6,Qo,X2,Qm,X3,X4,Qn,args0,Xb,X1,Xh,Xk,Xc,Xe,Xf,Xm,Xg,Xi,Xr,Xs,Qk,X5,Xn,Xd,Qi,Qj,Qw,Q2,Xu,zoi,zel,zta,zat,zgz,zgs,zlc,zln,Nat.reduceAdd,zza,znt,zcn,MV.int.injEq,kr0,kr1,kl0,kl1,kz0]))
  rw [List.length_map]
  have hmn : min many ((ns.length : Int) - 4) ≤ 60 := Int.le_trans (Int.min_le_left _ _) hmany.2
  have hmn' : -4 ≤ min many ((ns.length : Int) - 4) := Int.le_min.mpr ⟨Int.le_trans (by decide) hmany.1, Int.sub_le_sub_right (Int.natCast_nonneg _) 4⟩
  have hmr : min many ((ns.length : Int) - 4) ≤ (ns.length : Int) - 4 := Int.min_le_right _ _
  have hM : (min many ((ns.length : Int) - 4)).toNat = manyOf ns many := rfl
  generalize min many ((ns.length : Int) - 4) = M at hmn hmn' hmr hM ⊢
  have hml : manyOf ns many ≤ 60 := hM ▸ Int.toNat_le.mpr hmn
  refine ⟨.ints (rangeL 0 M 1), _, ?_, rfl, ?_, ?_⟩
  · simp only [mkSrc, rangeM]
    rw [if_pos (by simp only [in62, Bool.and_eq_true, decide_eq_true_eq]; lia)]; rfl
  · rw [List.length_map, Yn]; exact fit (by first|exact dn hd rfl|exact dl hd rfl|lia)
  simp only [Src.held, List.nil_append]
  rw [O5]
  refine Py hΓ₁ hΓ₂ hΓ₃ (by first|exact dn hd rfl|exact dl hd rfl|omega) ha₃ hn (x₃ _ _ hnml) h3 hr hrf _ 0 _ _ [] (by first|exact dn hd rfl|exact dl hd rfl|lia) (by first|exact dn hd rfl|exact dl hd rfl|lia) ⟨rfl, rfl, rfl, rfl⟩ (Ext.upd hr) Xo rfl (by simp) fun V μ₄ rows bv x₄ hm₄ hk hg => ?_
  have hlen : rows.length = manyOf ns many := by have := congrArg List.length hk; simpa [hM] using this
  refine seq ?_
  ((try dsimp only [K3,X6,Qr,Qu,Qs,Qg,Qf,Xa,X7,Qy,Qz,Xj,Qx,X8,X9,Qd,Qq,Qc,Qe,Qv,Xl,Q4,Qp,Qt,Ql,Qb,Qa,Q1,Qh,Q5,Q3,Q0,Q9,Q8,Q7,Q6,Qo,X2,Qm,X3,X4,Qn,args0,Xb,X1,Xf,Xm,Xg,Xi,Qk,X5,Qi,Qj,Qw,Q2,zgz,zgs,zlc,zln,Nat.reduceAdd,kr0,kr1,kl0,kl1,kz0,bv.v0,bv.v4]); (try simp (discharger := decide) only [K3,X6,Qr,Qu,Qs,Qg,Qf,Xa,X7,Qy,Qz,Xj,Qx,X8,X9,Qd,Qq,Qc,Qe,Qv,Xl,Q4,Qp,Qt,Ql,Qb,Qa,Q1,Qh,Q5,Q3,Q0,Q9,Q8,Q7,Q6,Qo,X2,Qm,X3,X4,Qn,args0,Xb,X1,Xh,Xk,Xc,Xe,Xf,Xm,Xg,Xi,Xr,Xs,Qk,X5,Xn,Xd,Qi,Qj,Qw,Q2,Xu,zoi,zel,zta,zat,zgz,zgs,zlc,zln,Nat.reduceAdd,zza,znt,zcn,MV.int.injEq,kr0,kr1,kl0,kl1,kz0,bv.v0,bv.v4]))
  refine Yh hΓ₁ (by first|exact dn hd rfl|exact dl hd rfl|omega) (x₄ _ _ ha₃) hn (by decide) fun μ₅ x₅ => ?_
  ((try dsimp only [X6,Qr,Qu,Qs,Qg,Qf,Xa,X7,Qy,Qz,Xj,Qx,X8,X9,Qd,Qq,Qc,Qe,Qv,Xl,Q4,Qp,Qt,Ql,Qb,Qa,Q1,Qh,Q5,Q3,Q0,Q9,Q8,Q7,Q6,Qo,X2,Qm,X3,X4,Qn,args0,Xb,X1,Xf,Xm,Xg,Xi,Qk,X5,Qi,Qj,Qw,Q2,zgz,zgs,zlc,zln,Nat.reduceAdd,kr0,kr1,kl0,kl1,kz0]); (try simp (discharger := decide) only [X6,Qr,Qu,Qs,Qg,Qf,Xa,X7,Qy,Qz,Xj,Qx,X8,X9,Qd,Qq,Qc,Qe,Qv,Xl,Q4,Qp,Qt,Ql,Qb,Qa,Q1,Qh,Q5,Q3,Q0,Q9,Q8,Q7,Q6,Qo,X2,Qm,X3,X4,Qn,args0,Xb,X1,Xh,Xk,Xc,Xe,Xf,Xm,Xg,Xi,Xr,Xs,Qk,X5,Xn,Xd,Qi,Qj,Qw,Q2,Xu,zoi,zel,zta,zat,zgz,zgs,zlc,zln,Nat.reduceAdd,zza,znt,zcn,MV.int.injEq,kr0,kr1,kl0,kl1,kz0]))
  refine Nn (x₅ _ _ hm₄) (fit (by simp; lia)) ?_
  ((try dsimp only [X6,Qr,Qu,Qs,Qg,Qf,Xa,X7,Qy,Qz,Xj,Qx,X8,X9,Qd,Qq,Qc,Qe,Qv,Xl,Q4,Qp,Qt,Ql,Qb,Qa,Q1,Qh,Q5,Q3,Q0,Q9,Q8,Q7,Q6,Qo,X2,Qm,X3,X4,Qn,args0,Xb,X1,Xf,Xm,Xg,Xi,Qk,X5,Qi,Qj,Qw,Q2,zgz,zgs,zlc,zln,Nat.reduceAdd,kr0,kr1,kl0,kl1,kz0]); (try simp (discharger := decide) only [X6,Qr,Qu,Qs,Qg,Qf,Xa,X7,Qy,Qz,Xj,Qx,X8,X9,Qd,Qq,Qc,Qe,Qv,Xl,Q4,Qp,Qt,Ql,Qb,Qa,Q1,Qh,Q5,Q3,Q0,Q9,Q8,Q7,Q6,Qo,X2,Qm,X3,X4,Qn,args0,Xb,X1,Xh,Xk,Xc,Xe,Xf,Xm,Xg,Xi,Xr,Xs,Qk,X5,Xn,Xd,Qi,Qj,Qw,Q2,Xu,zoi,zel,zta,zat,zgz,zgs,zlc,zln,Nat.reduceAdd,zza,znt,zcn,MV.int.injEq,kr0,kr1,kl0,kl1,kz0]))
  rw [List.length_map]
  rw [Xe (by first|exact dn hd rfl|exact dl hd rfl|simp)]
  have hcut := fm (a := (at0 ns 0).fdiv 12) (b := (rows.length : Int) + 1) (by first|exact dn hd rfl|exact dl hd rfl|simp)
  generalize ((at0 ns 0).fdiv 12).fmod ((rows.length : Int) + 1) = cut at hcut ⊢
  refine seq ?_
  ((try dsimp only [K2,X6,Qr,Qu,Qs,Qg,Qf,Xa,X7,Qy,Qz,Xj,Qx,X8,X9,Qd,Qq,Qc,Qe,Qv,Xl,Q4,Qp,Qt,Ql,Qb,Qa,Q1,Qh,Q5,Q3,Q0,Q9,Q8,Q7,Q6,Qo,X2,Qm,X3,X4,Qn,args0,Xb,X1,Xf,Xm,Xg,Xi,Qk,X5,Qi,Qj,Qw,Q2,zgz,zgs,zlc,zln,Nat.reduceAdd,kr0,kr1,kl0,kl1,kz0,bv.v4]); (try simp (discharger := decide) only [K2,X6,Qr,Qu,Qs,Qg,Qf,Xa,X7,Qy,Qz,Xj,Qx,X8,X9,Qd,Qq,Qc,Qe,Qv,Xl,Q4,Qp,Qt,Ql,Qb,Qa,Q1,Qh,Q5,Q3,Q0,Q9,Q8,Q7,Q6,Qo,X2,Qm,X3,X4,Qn,args0,Xb,X1,Xh,Xk,Xc,Xe,Xf,Xm,Xg,Xi,Xr,Xs,Qk,X5,Xn,Xd,Qi,Qj,Qw,Q2,Xu,zoi,zel,zta,zat,zgz,zgs,zlc,zln,Nat.reduceAdd,zza,znt,zcn,MV.int.injEq,kr0,kr1,kl0,kl1,kz0,bv.v4]))
  have hm₅ := x₅ _ _ hm₄
  refine Au rfl rfl rfl (by simp) hm₅ (fit (by simp; lia)) fun c₁ hc₁ hcf₁ => ?_
  refine Au rfl rfl rfl (by simp) (by rw [Yv (Y3 hm₅ hc₁)]; exact hm₅) (fit (by simp; lia)) fun c₂ hc₂ hcf₂ => ?_
  have e1 : pick (rows.map rowV) (some cut) none none = (rows.drop cut.toNat).map rowV := by rw [A5 _ hcut.1 (by simp; lia), List.map_drop]
  have e2 : pick (rows.map rowV) none (some cut) none = (rows.take cut.toNat).map rowV := by rw [A4 _ hcut.1 (by simp; lia), List.map_take]
  rw [e1] at hc₂ ⊢
  rw [e2]
  have ne : c₁ ≠ c₂ := Y3 (o := .list ((rows.drop cut.toNat).map rowV)) Xo hc₂
  refine b_addl (by rw [Yv ne, Xo]) Xo (fit (by simp; omega)) fun c₃ hc₃ hcf₃ => ?_
  rw [← List.map_append]
  refine bi_dict_l Xo ?_
  refine ⟨_, O7 _, fit (by simp; omega), fun c₄ hc₄ hcf₄ => ?_⟩
  have hnd : ((rows.drop cut.toNat ++ rows.take cut.toNat).map (·.1)).Nodup := by
    have h1 : (rows.map (·.1)).Nodup := by
      rw [hk]
      have gp := Bf ns
      refine List.Pairwise.map _ ?_ List.nodup_range
      intro x y hxy e
      have : ((x : Int) - y) * gapOf ns = 0 := by rw [Int.sub_mul]; lia
      rcases Int.mul_eq_zero.mp this with q | q
      · exact hxy (by first|exact dn hd rfl|exact dl hd rfl|lia)
      · lia
    have hp : (rows.drop cut.toNat ++ rows.take cut.toNat).Perm rows := by
      have := List.perm_append_comm (l₁ := rows.drop cut.toNat) (l₂ := rows.take cut.toNat)
      rwa [List.take_append_drop] at this
    exact (hp.map (·.1)).nodup_iff.mpr h1
  rw [put_all (acc := []) (by simpa using hnd), List.nil_append]
  have xx : Ext μ μ₅ := (((x₁.trans x₂).trans x₃).trans x₄).trans x₅
  have x6 := ((xx.trans (Ext.upd hc₁)).trans (Ext.upd hc₂)).trans (Ext.upd (o := .list ((rows.drop cut.toNat ++ rows.take cut.toNat).map rowV)) hc₃)
  refine h c₄ _ _ (x6.trans (Ext.upd hc₄)) ?_ hcf₄ Xo ⟨names, rows, cut.toNat, h3, hgood, ?_, hg, by lia, rfl, hnF.symm⟩
  · cases q : μ c₄ with
    | none => rfl
    | some o => rw [x6 _ _ q] at hc₄; cases hc₄
  · rw [hk]; simp [hM]
end Mine
end
section
namespace Mine
open PySem
noncomputable def Bw : MS := .assign 2 (.dict0 false)
noncomputable def Bv : MS := .assign 3 (.list [])
noncomputable def N7 : MS := .expr (.meth .append (.var 3) [(.var 4)])
noncomputable def Up : MS := .setidx (.var 2) (.idx (.idx (.var 0) (.var 4)) (.cint 1)) (.cbool true)
noncomputable def N6 : MS := .ite (.cmp (.idx (.idx (.var 0) (.var 4)) (.cint 0)) [.eq] [(.cstr "undo")]) [Up] []
noncomputable def Oy : MS := .ite (.and [(.cmp (.var 4) [.le] [(.var 1)]), (.cmp (.var 4) [.notin] [(.var 2)])]) [N7, N6] []
noncomputable def Bu : MS := .for (.one 4) .plain [(.bi .sortedR [(.meth .keys (.var 0) [])])] [Oy]
noncomputable def Bt : MS := .ret (.bi .sorted [(.var 3)])
noncomputable def f_counting : MFun := ⟨2, [Bw, Bv, Bu, Bt]⟩
end Mine
end
section
namespace Mine
open PySem
variable {G : String → Option MV} {Γ : String → Option MFun}
noncomputable def Atom (v : MV) : Prop := (∃ i, v = .int i) ∨ ∃ s, v = .str s ∧ PyData.strOk s = true
noncomputable def EntOk (e : MV) : Prop := (∃ j, e = .tup [.str (S "undo"), .int j]) ∨ ∃ s rest, e = .tup (.str s :: rest) ∧ s ≠ S "undo" ∧ PyData.strOk s = true ∧ rest.length ≤ 10 ∧ ∀ v ∈ rest, Atom v
noncomputable def undoOf (e : MV) : Option Int := match e with
  | .tup [.str s, .int j] => if s = S "undo" then some j else none
  | _ => none
noncomputable def undoAt (kvs : List (Int × MV)) (k : Int) : Option Int := (lookI kvs k).bind undoOf
theorem Aq : PyData.strOk (S "undo") = true := by decide +kernel
theorem EntOk.other {s : Str} {rest : List MV} (h : s ≠ S "undo") : undoOf (.tup (.str s :: rest)) = none := by
  unfold undoOf
  split
  · rename_i q; cases q; rw [if_neg h]
  · rfl
theorem EntOk.undo {j : Int} : undoOf (.tup [.str (S "undo"), .int j]) = some j := by simp [undoOf]
theorem GoodE.ent {names : List Str} {number : Int} {e : MV} (hn : ∀ nm ∈ names, GoodN nm) (h : GoodE names number e) : EntOk e := by
  have a1 : S "clear" ≠ S "undo" := by decide +kernel
  have a2 : S "like" ≠ S "undo" := by decide +kernel
  have a3 : S "tell" ≠ S "undo" := by decide +kernel
  have b1 : PyData.strOk (S "clear") = true := by decide +kernel
  have b2 : PyData.strOk (S "like") = true := by decide +kernel
  have b3 : PyData.strOk (S "tell") = true := by decide +kernel
  have hs : ∀ nm ∈ names, Atom (.str nm) := fun nm h => .inr ⟨nm, rfl, (hn nm h).ok⟩
  have hi : ∀ i, Atom (.int i) := fun i => .inl ⟨i, rfl⟩
  rcases h with ⟨j, rfl, _⟩ | ⟨nm, lo, hi', rfl, h1, _⟩ | ⟨nm, lo, hi', nm', rfl, h1, h2, _⟩ | ⟨nm, lo, hi', v, rfl, h1, _⟩
  · exact .inl ⟨j, rfl⟩
  · exact .inr ⟨_, _, rfl, a1, b1, by simp, by simp [hs nm h1, hi]⟩
  · exact .inr ⟨_, _, rfl, a2, b2, by simp, by simp [hs nm h1, hs nm' h2, hi]⟩
  · exact .inr ⟨_, _, rfl, a3, b3, by simp, by simp [hs nm h1, hi]⟩
theorem Uq {μ : MH} {n : Nat} : ∀ {l : List MV}, (∀ v ∈ l, Atom v) → ∃ ds, l.mapM (deep μ n) = some ds
  | [] => fun _ => ⟨[], rfl⟩
  | v :: l => fun h => by
    obtain ⟨ds, hd⟩ := Uq (μ := μ) (n := n) fun v hv => h v (.tail _ hv)
    have : ∃ d, deep μ n v = some d := by
      rcases h v (.head _) with ⟨i, rfl⟩ | ⟨s, rfl, hs⟩
      · exact ⟨.int i, by cases n <;> simp [deep]⟩
      · exact ⟨.str s, by cases n <;> simp [deep, hs]⟩
    obtain ⟨d, hv⟩ := this
    exact ⟨d :: ds, by rw [List.mapM_cons, hv, hd]; rfl⟩
theorem eq_undo {μ : MH} {e : MV} {k : Int} (h : EntOk e) : cmpM .eq μ e (.tup [.str (S "undo"), .int k]) = some (decide (undoOf e = some k)) := by
  have hd2 : deep μ 9 (.tup [.str (S "undo"), .int k]) = some (.tuple [.str (S "undo"), .int k]) := by
    simp [deep, List.mapM_cons, List.mapM_nil, Aq]
  rcases h with ⟨j, rfl⟩ | ⟨s, rest, rfl, hs, ho, _, ha⟩
  · have hd1 : deep μ 9 (.tup [.str (S "undo"), .int j]) = some (.tuple [.str (S "undo"), .int j]) := by
      simp [deep, List.mapM_cons, List.mapM_nil, Aq]
    rw [EntOk.undo]
    simp only [cmpM, eqM, eqD, hd1, hd2, PyData.eqv, PyData.eqvAll]
    by_cases q : j = k <;> simp [q]
  · obtain ⟨ds, hds⟩ := Uq (μ := μ) (n := 8) ha
    have hd1 : deep μ 9 (.tup (.str s :: rest)) = some (.tuple (.str s :: ds)) := by
      simp only [deep, List.mapM_cons, ho, hds]; rfl
    rw [EntOk.other hs]
    have hne : (s == S "undo") = false := by rw [beq_eq_false_iff_ne]; exact hs
    simp only [cmpM, eqM, eqD, hd1, hd2, PyData.eqv, PyData.eqvAll, hne]
    simp
theorem Kh {K : Type} [DecidableEq K] {kvs : List (K × MV)} (hn : (kvs.map (·.1)).Nodup) {p : K × MV} (hp : p ∈ kvs) : lookI kvs p.1 = some p.2 := by
  induction kvs with
  | nil => cases hp
  | cons q l ih =>
    simp only [List.map_cons, List.nodup_cons] at hn
    unfold lookI
    rw [List.find?_cons]
    rcases List.mem_cons.mp hp with rfl | hp'
    · simp
    · have : q.1 ≠ p.1 := fun e => hn.1 (e ▸ List.mem_map_of_mem hp')
      simp only [this, decide_false]
      exact ih hn.2 hp'
end Mine
end
section
namespace Mine
open PySem
variable {G : String → Option MV} {Γ : String → Option MFun}
noncomputable def cntF (kvs : List (Int × MV)) (n : Int) : List Int → List Int → List Int
  | [], _ => []
  | k :: ks, u => if k ≤ n ∧ k ∉ u then k :: cntF kvs n ks (match undoAt kvs k with | some j => j :: u | none => u) else cntF kvs n ks u
theorem look_put {l : List (Int × MV)} {j k : Int} {v : MV} : (lookI (putI l j v) k).isSome = (decide (k = j) || (lookI l k).isSome) := by
  unfold lookI putI
  simp only [Option.isSome_map, List.find?_isSome]
  split
  · rename_i h
    simp only [List.any_eq_true, decide_eq_true_eq] at h
    rw [Bool.eq_iff_iff]
    simp only [Bool.or_eq_true, decide_eq_true_eq, List.find?_isSome]
    constructor
    · rintro ⟨x, hx, e⟩
      obtain ⟨y, hy, rfl⟩ := List.mem_map.mp hx
      refine .inr ⟨y, hy, ?_⟩
      split at e <;> exact e
    · rintro (rfl | ⟨x, hx, e⟩)
      · obtain ⟨x, hx, e⟩ := h
        exact ⟨_, List.mem_map.mpr ⟨x, hx, rfl⟩, by split <;> exact e⟩
      · exact ⟨_, List.mem_map.mpr ⟨x, hx, rfl⟩, by split <;> exact e⟩
  · rw [Bool.eq_iff_iff]
    simp only [Bool.or_eq_true, decide_eq_true_eq, List.find?_isSome, List.mem_append, List.mem_singleton]
    constructor
    · rintro ⟨x, hx | rfl, e⟩
      · exact .inr ⟨x, hx, e⟩
      · exact .inl e.symm
    · rintro (rfl | ⟨x, hx, e⟩)
      · exact ⟨_, .inr rfl, rfl⟩
      · exact ⟨x, .inl hx, e⟩
theorem put_len {l : List (Int × MV)} {j : Int} {v : MV} : (putI l j v).length ≤ l.length + 1 := by
  unfold putI; split <;> simp
theorem ints_map : ∀ (l : List Int), intsOf (l.map .int) = some l
  | [] => rfl
  | i :: l => by
    have := ints_map l
    unfold intsOf at this ⊢
    rw [List.map_cons, List.mapM_cons, this]; rfl
theorem Px (l : List Int) : (sortI l).length = l.length := by unfold sortI; exact List.length_mergeSort ..
theorem bi_sortedR {fz : List Addr} {Q : MQ} {μ : MH} {v : MV} (l : List MV) (ns : List Int) (h0 : isStrV v = false) (h1 : items μ v = some l) (h2 : intsOf l = some ns) (h3 : l.length < 64) (hq : ∀ c, μ c = none → c ∉ fz → Q (.ref c) (upd μ c (.list ((sortI ns).reverse.map .int)))) : biM fz .sortedR [v] Q μ := by
  exact ⟨l, ns, h0, h1, h2, h3, hq⟩
theorem bi_sorted {fz : List Addr} {Q : MQ} {μ : MH} {v : MV} (l : List MV) (ns : List Int) (h0 : isStrV v = false) (h1 : items μ v = some l) (h2 : intsOf l = some ns) (h3 : l.length < 64) (hq : ∀ c, μ c = none → c ∉ fz → Q (.ref c) (upd μ c (.list ((sortI ns).map .int)))) : biM fz .sorted [v] Q μ := by
  exact ⟨l, ns, h0, h1, h2, h3, hq⟩
structure CV (b u f : Addr) (n : Int) (V : MVars) : Prop where
  v0 : V 0 = some (.ref b)
  v1 : V 1 = some (.int n)
  v2 : V 2 = some (.ref u)
  v3 : V 3 = some (.ref f)
theorem CV.set {b u f : Addr} {n : Int} {V : MVars} (x : CV b u f n V) {i : Nat} (h : 4 ≤ i) (v : MV) : CV b u f n (setv V i v) :=
  ⟨(Xd (by first | exact nei h rfl | decide)).trans x.v0, (Xd (by first | exact nei h rfl | decide)).trans x.v1, (Xd (by first | exact nei h rfl | decide)).trans x.v2, (Xd (by first | exact nei h rfl | decide)).trans x.v3⟩
noncomputable def cntOf (kvs : List (Int × MV)) (n : Int) : List Int := sortI (cntF kvs n (sortI (kvs.map (·.1))).reverse [])
theorem P2 {kvs : List (Int × MV)} {n : Int} : ∀ (ks us : List Int), (cntF kvs n ks us).length ≤ ks.length
  | [] => fun _ => Nat.le_refl _
  | k :: ks => fun us => by
    unfold cntF
    split
    · simp only [List.length_cons]; exact Nat.succ_le_succ (P2 ks _)
    · exact Nat.le_succ_of_le (P2 ks us)
end Mine
end
section
namespace Mine
open PySem
variable {G : String → Option MV} {Γ : String → Option MFun}
theorem Zw (l : List Int) : (sortI l).Perm l := List.mergeSort_perm ..
theorem Kd (l : List Int) : (sortI l).Pairwise (· ≤ ·) := by
  have := List.pairwise_mergeSort (le := fun (a b : Int) => decide (a ≤ b)) (by intro a b c; simp; solve_by_elim (maxDepth := 3) only [*, Int.le_trans, Int.lt_of_lt_of_le, Int.lt_of_le_of_lt, Int.le_of_lt]) (by intro a b; simp; lia) l
  exact this.imp (by simp)
theorem O2 {a b : List Int} (ha : a.Pairwise (· ≤ ·)) (hb : b.Pairwise (· ≤ ·)) (h : a.Perm b) : a = b :=
  h.eq_of_pairwise (fun a b _ _ x y => by lia) ha hb
theorem sortI_of {a b : List Int} (h : a.Perm b) : sortI a = sortI b :=
  O2 (Kd a) (Kd b) ((Zw a).trans (h.trans (Zw b).symm))
theorem sortI_filter {l : List Int} {P : Int → Bool} : (sortI l).filter P = sortI (l.filter P) :=
  O2 ((Kd l).filter _) (Kd _) (((Zw l).filter P).trans (Zw _).symm)
theorem sortI_lt {l : List Int} (h : l.Nodup) : (sortI l).Pairwise (· < ·) := by
  have h1 := Kd l
  have h2 : (sortI l).Nodup := (Zw l).nodup_iff.mpr h
  have := h1.and h2
  exact this.imp fun {a b} ⟨x, y⟩ => by have : a ≠ b := y; lia
theorem put_keys {l : List (Int × MV)} {j : Int} {v : MV} (h : (l.map (·.1)).Nodup) : ((putI l j v).map (·.1)).Nodup := by
  unfold putI
  split
  · rw [List.map_map, List.map_congr_left (g := (·.1))]
    · exact h
    · intro p _; simp only [Function.comp]; split <;> rfl
  · rename_i a
    simp only [List.any_eq_true, not_exists, not_and, decide_eq_true_eq] at a
    rw [List.map_append, List.nodup_append]
    refine ⟨h, by simp, ?_⟩
    intro x hx y hy e
    simp at hy
    obtain ⟨p, hp, rfl⟩ := List.mem_map.mp hx
    exact a p hp (e.trans hy)
theorem eqv_self {μ : MH} : ∀ (n : Nat) {v : MV} {d : PyData}, deep μ n v = some d → PyData.eqv d d = true := by
  have hall : ∀ (n : Nat), (∀ {v : MV} {d : PyData}, deep μ n v = some d → PyData.eqv d d = true) → ∀ {l : List MV} {ds : List PyData}, l.mapM (deep μ n) = some ds → PyData.eqvAll ds ds = true := by
    intro n ih l
    induction l with
    | nil => intro ds h; simp at h; subst h; rfl
    | cons v l il =>
      intro ds h
      rw [List.mapM_cons] at h
      cases h1 : deep μ n v with
      | none => rw [h1] at h; cases h
      | some d =>
        cases h2 : l.mapM (deep μ n) with
        | none => rw [h1, h2] at h; cases h
        | some es =>
          rw [h1, h2] at h
          cases h
          simp only [PyData.eqvAll, ih h1, il h2, Bool.and_self]
  intro n
  induction n with
  | zero => 
    intro v d h
    cases v <;> simp [deep] at h
    all_goals first | (subst h; simp [PyData.eqv]; done) | (obtain ⟨_, rfl⟩ := h; simp [PyData.eqv])
  | succ n ih =>
    intro v d h
    cases v with
    | tup l =>
      simp only [deep, Option.map_eq_some_iff] at h
      obtain ⟨ds, h, rfl⟩ := h
      simpa [PyData.eqv] using hall n ih h
    | ref a =>
      simp only [deep] at h
      split at h
      · simp only [Option.map_eq_some_iff] at h
        obtain ⟨ds, h, rfl⟩ := h
        simpa [PyData.eqv] using hall n ih h
      · cases h
    | none => simp [deep] at h; subst h; simp [PyData.eqv]
    | bool b => simp [deep] at h; subst h; simp [PyData.eqv]
    | int b => simp [deep] at h; subst h; simp [PyData.eqv]
    | str b => simp [deep] at h; obtain ⟨_, rfl⟩ := h; simp [PyData.eqv]
    | keys b => simp [deep] at h
    | vals b => simp [deep] at h
theorem eqD_self {μ : MH} {v : MV} (h : ∃ d, deep μ 9 v = some d) : eqD μ v v = some true := by
  obtain ⟨d, h⟩ := h
  simp only [eqD, h, eqv_self 9 h]
theorem EntOk.deep {μ : MH} {e : MV} (h : EntOk e) : ∃ d, deep μ 9 e = some d := by
  rcases h with ⟨j, rfl⟩ | ⟨s, rest, rfl, hs, ho, _, ha⟩
  · exact ⟨.tuple [.str (S "undo"), .int j], by simp [Mine.deep, List.mapM_cons, List.mapM_nil, Aq]⟩
  · obtain ⟨ds, hds⟩ := Uq (μ := μ) (n := 8) ha
    exact ⟨.tuple (.str s :: ds), by simp only [Mine.deep, List.mapM_cons, ho, hds]; rfl⟩
theorem A9 {α : Type} {f : α → Option Bool} : ∀ {l : List α}, (∀ x ∈ l, f x = some true) → l.mapM f = some (l.map fun _ => true)
  | [] => fun _ => rfl
  | x :: l => fun h => by rw [List.mapM_cons, h x (.head _), A9 fun y hy => h y (.tail _ hy)]; rfl
theorem By {μ : MH} {b e : Addr} {kvs : List (Int × MV)} (hb : μ b = some (.idict kvs)) (he : μ e = some (.idict kvs)) (hnd : (kvs.map (·.1)).Nodup) (h : ∀ p ∈ kvs, ∃ d, deep μ 9 p.2 = some d) : eqM μ (.ref b) (.ref e) = some true := by
  simp only [eqM, hb, he, eqDicts, if_true]
  rw [A9]
  · simp [List.all_map]
  · intro p hp
    rw [Kh hnd hp]; exact eqD_self (h p hp)
theorem N8 {μ : MH} {n : Nat} : ∀ (l : List Int), (l.map MV.int).mapM (deep μ n) = some (l.map PyData.int)
  | [] => rfl
  | i :: l => by rw [List.map_cons, List.mapM_cons, N8 l]; cases n <;> rfl
theorem eq_ints {μ : MH} {b e : Addr} {l : List Int} (hb : μ b = some (.list (l.map .int))) (he : μ e = some (.list (l.map .int))) : eqM μ (.ref b) (.ref e) = some true := by
  have hd1 : deep μ 9 (.ref b) = some (.list (l.map PyData.int)) := by simp only [deep, Kg hb, N8]; rfl
  have hd2 : deep μ 9 (.ref e) = some (.list (l.map PyData.int)) := by simp only [deep, Kg he, N8]; rfl
  simp only [eqM, hb, he, eqD, hd1, hd2, eqv_self 9 hd1]
theorem put_ent {kvs : List (Int × MV)} {k : Int} {v : MV} (h : ∀ p ∈ kvs, EntOk p.2) (hv : EntOk v) : ∀ p ∈ putI kvs k v, EntOk p.2 := by
  unfold putI
  split
  · intro p hp
    obtain ⟨q, hq, rfl⟩ := List.mem_map.mp hp
    split
    · exact hv
    · exact h q hq
  · intro p hp
    rcases List.mem_append.mp hp with hp | hp
    · exact h p hp
    · simp at hp; subst hp; exact hv
theorem P8 {ns : List Int} {many : Int} {kvs : List (Int × MV)} (h : BookOk ns many kvs) (hm : 0 ≤ many ∧ many ≤ 14) : (kvs.map (·.1)).Nodup ∧ kvs.length ≤ 14 ∧ (∀ p ∈ kvs, EntOk p.2) ∧ ∀ k ∈ kvs.map (·.1), 1 ≤ k ∧ k ≤ 40 := by
  obtain ⟨names, rows, cut, h3, hg, hk, he, hc, rfl, _⟩ := h
  have gp := Bf ns
  have hp : (rows.drop cut ++ rows.take cut).Perm rows := by
    have := List.perm_append_comm (l₁ := rows.drop cut) (l₂ := rows.take cut)
    rwa [List.take_append_drop] at this
  have hl : rows.length ≤ 14 := by
    have := congrArg List.length hk
    simp at this; unfold manyOf at this; omega
  refine ⟨?_, ?_, fun p q => (he p (hp.mem_iff.mp q)).ent hg, ?_⟩
  · refine (hp.map (·.1)).nodup_iff.mpr ?_
    rw [hk]
    refine List.Pairwise.map _ ?_ List.nodup_range
    intro x y hxy e
    have : ((x : Int) - y) * gapOf ns = 0 := by rw [Int.sub_mul]; lia
    rcases Int.mul_eq_zero.mp this with q | q
    · exact hxy (by first|exact dn hd rfl|exact dl hd rfl|lia)
    · lia
  · rw [hp.length_eq]; exact hl
  · intro k q
    have q := (hp.map (·.1)).mem_iff.mp q
    rw [hk] at q
    obtain ⟨i, hi, rfl⟩ := List.mem_map.mp q
    have hi := List.mem_range.mp hi
    have : manyOf ns many ≤ 14 := by unfold manyOf; omega
    have h1 : 0 ≤ (i : Int) * gapOf ns := Int.mul_nonneg (by first|exact dn hd rfl|exact dl hd rfl|exact Int.natCast_nonneg _) (by first|exact dn hd rfl|exact dl hd rfl|lia)
    have h2 : (i : Int) * gapOf ns ≤ 13 * gapOf ns := Int.mul_le_mul_of_nonneg_right (by first|exact dn hd rfl|exact dl hd rfl|lia) (by first|exact dn hd rfl|exact dl hd rfl|lia)
    lia
theorem Af : ∀ (l : List Int) (x : Int), (1 ≤ x ∧ x ≤ 40) → (∀ k ∈ l, 1 ≤ k ∧ k ≤ 40) → 1 ≤ l.foldl max x ∧ l.foldl max x ≤ 40
  | [] => fun x hx _ => hx
  | y :: l => fun x hx h => by
    have := h y (.head _)
    exact Af l (max x y) (by first|exact dn hd rfl|exact dl hd rfl|omega) fun k hk => h k (.tail _ hk)
theorem maxI_rng {l : List Int} (h : ∀ k ∈ l, 1 ≤ k ∧ k ≤ 40) : 0 ≤ (maxI l).getD 0 ∧ (maxI l).getD 0 ≤ 40 := by
  cases l with
  | nil => simp [maxI]
  | cons x l =>
    have := Af l x (h x (.head _)) fun k hk => h k (.tail _ hk)
    simp only [maxI, Option.getD_some]; lia
theorem whole_comp {d : Nat} {fz fz' : List Addr} {V : MVars} {Q : MQ} {μ : MH} (hΓ : Γ "_law_whole" = some Nj) (hd : 1 ≤ d) : ∀ (ks : List Int) (acc : List Bool), (∀ c, μ c = none → c ∉ fz → Q (.ref c) (upd μ c (.list ((acc ++ ks.map fun _ => true).map .bool)))) →
      compM fz (.one 8) V (fun vs F μ => evIfs G (calls G Γ d) X0 [] fz' vs F μ) (fun vs F μ => ev G (calls G Γ d) X0 (.call "_law_whole" [(.var 8)]) fz' vs F μ) Q (ks.map .int) (acc.map .bool) μ
  | [] => fun acc h => by
    simp only [List.map_nil, compM]
    intro c hc hcz
    simpa using h c hc hcz
  | k :: ks => fun acc h => by
    have ih := whole_comp hΓ hd ks (acc ++ [true]) (μ := μ) (Q := Q) (fz := fz) (fz' := fz') (V := V) fun c hc hcz => by simpa using h c hc hcz
    rw [List.map_cons, compM]
    generalize compM fz (.one 8) V _ _ Q = C at ih ⊢
    refine ⟨_, rfl, ?_⟩
    ((try dsimp only [X6,Qr,Qu,Qs,Qg,Qf,Xa,X7,Qy,Qz,Xj,Qx,X8,X9,Qd,Qq,Qc,Qe,Qv,Xl,Q4,Qp,Qt,Ql,Qb,Qa,Q1,Qh,Q5,Q3,Q0,Q9,Q8,Q7,Q6,Qo,X2,Qm,X3,X4,Qn,args0,Xb,X1,Xf,Xm,Xg,Xi,Qk,X5,Qi,Qj,Qw,Q2,zgz,zgs,zlc,zln,Nat.reduceAdd,kr0,kr1,kl0,kl1,kz0]); (try simp (discharger := decide) only [X6,Qr,Qu,Qs,Qg,Qf,Xa,X7,Qy,Qz,Xj,Qx,X8,X9,Qd,Qq,Qc,Qe,Qv,Xl,Q4,Qp,Qt,Ql,Qb,Qa,Q1,Qh,Q5,Q3,Q0,Q9,Q8,Q7,Q6,Qo,X2,Qm,X3,X4,Qn,args0,Xb,X1,Xh,Xk,Xc,Xe,Xf,Xm,Xg,Xi,Xr,Xs,Qk,X5,Xn,Xd,Qi,Qj,Qw,Q2,Xu,zoi,zel,zta,zat,zgz,zgs,zlc,zln,Nat.reduceAdd,zza,znt,zcn,MV.int.injEq,kr0,kr1,kl0,kl1,kz0]))
    simp only [if_true]
    refine Od hΓ hd ?_
    simpa using ih
theorem cnt_len (kvs : List (Int × MV)) (n : Int) : (cntOf kvs n).length ≤ kvs.length := by
  unfold cntOf
  rw [Px]
  refine Nat.le_trans (P2 _ _) ?_
  rw [List.length_reverse, Px, List.length_map]; exact Nat.le_refl _
theorem bools_map : ∀ (l : List Bool), boolsOf (l.map .bool) = some l
  | [] => rfl
  | i :: l => by
    have := bools_map l
    unfold boolsOf at this ⊢
    rw [List.map_cons, List.mapM_cons, this]; rfl
end Mine
end
section
namespace Mine
open PySem
noncomputable def Bs : MS := .ret (.and [(.cmp (.idx (.var 0) (.cint 0)) [.ne] [(.cstr "undo")]), (.cmp (.idx (.var 0) (.cint 1)) [.eq] [(.var 1)]), (.cmp (.idx (.var 0) (.cint 2)) [.le, .le] [(.var 2), (.idx (.var 0) (.cint 3))])])
noncomputable def f_is_about : MFun := ⟨3, [Bs]⟩
noncomputable def Oj : MS := .assign 5 (.idx (.var 0) (.var 4))
noncomputable def Uk : MS := .ret (.idx (.var 5) (.cint 4))
noncomputable def Vw : MS := .ite (.cmp (.idx (.var 5) (.cint 0)) [.eq] [(.cstr "tell")]) [Uk] []
noncomputable def Uj : MS := .ret .cnone
noncomputable def Vv : MS := .ite (.cmp (.idx (.var 5) (.cint 0)) [.eq] [(.cstr "clear")]) [Uj] []
noncomputable def Vu : MS := .assign 2 (.idx (.var 5) (.cint 4))
noncomputable def Oi : MS := .ite (.call "is_about" [(.var 5), (.var 2), (.var 3)]) [Vw, Vv, Vu] []
noncomputable def Bj : MS := .for (.one 4) .rev [(.var 1)] [Oj, Oi]
noncomputable def Bi : MS := .ret .cnone
noncomputable def f_worth_by : MFun := ⟨4, [Bj, Bi]⟩
noncomputable def Bh : MS := .ret (.call "worth_by" [(.var 0), (.call "counting" [(.var 0), (.var 1)]), (.var 2), (.var 3)])
noncomputable def f_worth_of : MFun := ⟨4, [Bh]⟩
noncomputable def N5 : MS := .assign 2 (.list [])
noncomputable def N4 : MS := .assign 3 (.list [])
noncomputable def Kr : MS := .expr (.meth .append (.var 3) [(.var 4)])
noncomputable def K1 : MS := .expr (.meth .append (.var 2) [(.idx (.idx (.var 0) (.var 4)) (.cint 1))])
noncomputable def Kq : MS := .ite (.cmp (.idx (.idx (.var 0) (.var 4)) (.cint 0)) [.eq] [(.cstr "undo")]) [K1] []
noncomputable def Un : MS := .ite (.and [(.cmp (.var 4) [.le] [(.var 1)]), (.cmp (.var 4) [.notin] [(.var 2)])]) [Kr, Kq] []
noncomputable def N3 : MS := .for (.one 4) .plain [(.bi .sortedR [(.var 0)])] [Un]
noncomputable def N2 : MS := .ret (.slice (.var 3) .cnone .cnone (.neg (.cint 1)))
noncomputable def f_law_counting : MFun := ⟨2, [N5, N4, N3, N2]⟩
noncomputable def Bm : MS := .assign 3 (.dict0 true)
noncomputable def Om : MS := .assign 5 (.idx (.var 0) (.var 4))
noncomputable def Ul : MS := .setidx (.var 3) (.idx (.var 5) (.cint 1)) (.idx (.var 5) (.cint 4))
noncomputable def Kb : MS := .setidx (.var 3) (.idx (.var 5) (.cint 1)) .cnone
noncomputable def K0 : MS := .setidx (.var 3) (.idx (.var 5) (.cint 1)) (.meth .get2 (.var 3) [(.idx (.var 5) (.cint 4)), .cnone])
noncomputable def U3 : MS := .ite (.cmp (.idx (.var 5) (.cint 0)) [.eq] [(.cstr "clear")]) [Kb] [K0]
noncomputable def N1 : MS := .ite (.cmp (.idx (.var 5) (.cint 0)) [.eq] [(.cstr "tell")]) [Ul] [U3]
noncomputable def Ol : MS := .ite (.and [(.cmp (.idx (.var 5) (.cint 0)) [.ne] [(.cstr "undo")]), (.cmp (.idx (.var 5) (.cint 2)) [.le, .le] [(.var 2), (.idx (.var 5) (.cint 3))])]) [N1] []
noncomputable def Bl : MS := .for (.one 4) .plain [(.call "_law_counting" [(.var 0), (.var 1)])] [Om, Ol]
noncomputable def Bk : MS := .ret (.var 3)
noncomputable def f_law_said : MFun := ⟨3, [Bm, Bl, Bk]⟩
end Mine
end
section
namespace Mine
open PySem
variable {G : String → Option MV} {Γ : String → Option MFun}
section
variable {μ : MH} {a b c d e : MV}
theorem ix2_0 : idxM μ (.tup [a, b]) (.int 0) = some a := by simp [idxM, intO, atI]
theorem ix2_1 : idxM μ (.tup [a, b]) (.int 1) = some b := by simp [idxM, intO, atI]
theorem ix3_0 : idxM μ (.tup [a, b, c]) (.int 0) = some a := by simp [idxM, intO, atI]
theorem ix3_1 : idxM μ (.tup [a, b, c]) (.int 1) = some b := by simp [idxM, intO, atI]
theorem ix3_2 : idxM μ (.tup [a, b, c]) (.int 2) = some c := by simp [idxM, intO, atI]
theorem ix4_0 : idxM μ (.tup [a, b, c, d]) (.int 0) = some a := by simp [idxM, intO, atI]
theorem ix4_1 : idxM μ (.tup [a, b, c, d]) (.int 1) = some b := by simp [idxM, intO, atI]
theorem ix4_2 : idxM μ (.tup [a, b, c, d]) (.int 2) = some c := by simp [idxM, intO, atI]
theorem ix4_3 : idxM μ (.tup [a, b, c, d]) (.int 3) = some d := by simp [idxM, intO, atI]
theorem ix5_0 : idxM μ (.tup [a, b, c, d, e]) (.int 0) = some a := by simp [idxM, intO, atI]
theorem ix5_1 : idxM μ (.tup [a, b, c, d, e]) (.int 1) = some b := by simp [idxM, intO, atI]
theorem ix5_2 : idxM μ (.tup [a, b, c, d, e]) (.int 2) = some c := by simp [idxM, intO, atI]
theorem ix5_3 : idxM μ (.tup [a, b, c, d, e]) (.int 3) = some d := by simp [idxM, intO, atI]
theorem ix5_4 : idxM μ (.tup [a, b, c, d, e]) (.int 4) = some e := by simp [idxM, intO, atI]
theorem Zo : PyData.strOk (S "undo") = true := by decide +kernel
theorem Yp : PyData.strOk (S "clear") = true := by decide +kernel
theorem Uv : PyData.strOk (S "like") = true := by decide +kernel
theorem Za : PyData.strOk (S "tell") = true := by decide +kernel
theorem B5 : cmpM .eq μ (.str (S "undo")) (.str (S "undo")) = some true := by rw [Jq Zo Zo]; simp
theorem kn_undo_undo : cmpM .ne μ (.str (S "undo")) (.str (S "undo")) = some false := by
  have h : eqM μ (.str (S "undo")) (.str (S "undo")) = some true := B5
  simp only [cmpM, h]; rfl
theorem B6 : cmpM .eq μ (.str (S "undo")) (.str (S "tell")) = some false := by rw [Jq Zo Za]; exact congrArg some (beq_eq_false_iff_ne.mpr (by decide +kernel))
theorem kn_undo_tell : cmpM .ne μ (.str (S "undo")) (.str (S "tell")) = some true := by
  have h : eqM μ (.str (S "undo")) (.str (S "tell")) = some false := B6
  simp only [cmpM, h]; rfl
theorem Pi : cmpM .eq μ (.str (S "undo")) (.str (S "clear")) = some false := by rw [Jq Zo Yp]; exact congrArg some (beq_eq_false_iff_ne.mpr (by decide +kernel))
theorem kn_undo_clear : cmpM .ne μ (.str (S "undo")) (.str (S "clear")) = some true := by
  have h : eqM μ (.str (S "undo")) (.str (S "clear")) = some false := Pi
  simp only [cmpM, h]; rfl
theorem Pl : cmpM .eq μ (.str (S "clear")) (.str (S "undo")) = some false := by rw [Jq Yp Zo]; exact congrArg some (beq_eq_false_iff_ne.mpr (by decide +kernel))
theorem kn_clear_undo : cmpM .ne μ (.str (S "clear")) (.str (S "undo")) = some true := by
  have h : eqM μ (.str (S "clear")) (.str (S "undo")) = some false := Pl
  simp only [cmpM, h]; rfl
theorem Pm : cmpM .eq μ (.str (S "clear")) (.str (S "tell")) = some false := by rw [Jq Yp Za]; exact congrArg some (beq_eq_false_iff_ne.mpr (by decide +kernel))
theorem kn_clear_tell : cmpM .ne μ (.str (S "clear")) (.str (S "tell")) = some true := by
  have h : eqM μ (.str (S "clear")) (.str (S "tell")) = some false := Pm
  simp only [cmpM, h]; rfl
theorem Of : cmpM .eq μ (.str (S "clear")) (.str (S "clear")) = some true := by rw [Jq Yp Yp]; simp
theorem kn_clear_clear : cmpM .ne μ (.str (S "clear")) (.str (S "clear")) = some false := by
  have h : eqM μ (.str (S "clear")) (.str (S "clear")) = some true := Of
  simp only [cmpM, h]; rfl
theorem B9 : cmpM .eq μ (.str (S "like")) (.str (S "undo")) = some false := by rw [Jq Uv Zo]; exact congrArg some (beq_eq_false_iff_ne.mpr (by decide +kernel))
theorem kn_like_undo : cmpM .ne μ (.str (S "like")) (.str (S "undo")) = some true := by
  have h : eqM μ (.str (S "like")) (.str (S "undo")) = some false := B9
  simp only [cmpM, h]; rfl
theorem Ba : cmpM .eq μ (.str (S "like")) (.str (S "tell")) = some false := by rw [Jq Uv Za]; exact congrArg some (beq_eq_false_iff_ne.mpr (by decide +kernel))
theorem kn_like_tell : cmpM .ne μ (.str (S "like")) (.str (S "tell")) = some true := by
  have h : eqM μ (.str (S "like")) (.str (S "tell")) = some false := Ba
  simp only [cmpM, h]; rfl
theorem Pk : cmpM .eq μ (.str (S "like")) (.str (S "clear")) = some false := by rw [Jq Uv Yp]; exact congrArg some (beq_eq_false_iff_ne.mpr (by decide +kernel))
theorem kn_like_clear : cmpM .ne μ (.str (S "like")) (.str (S "clear")) = some true := by
  have h : eqM μ (.str (S "like")) (.str (S "clear")) = some false := Pk
  simp only [cmpM, h]; rfl
theorem B7 : cmpM .eq μ (.str (S "tell")) (.str (S "undo")) = some false := by rw [Jq Za Zo]; exact congrArg some (beq_eq_false_iff_ne.mpr (by decide +kernel))
theorem kn_tell_undo : cmpM .ne μ (.str (S "tell")) (.str (S "undo")) = some true := by
  have h : eqM μ (.str (S "tell")) (.str (S "undo")) = some false := B7
  simp only [cmpM, h]; rfl
theorem B8 : cmpM .eq μ (.str (S "tell")) (.str (S "tell")) = some true := by rw [Jq Za Za]; simp
theorem kn_tell_tell : cmpM .ne μ (.str (S "tell")) (.str (S "tell")) = some false := by
  have h : eqM μ (.str (S "tell")) (.str (S "tell")) = some true := B8
  simp only [cmpM, h]; rfl
theorem Pj : cmpM .eq μ (.str (S "tell")) (.str (S "clear")) = some false := by rw [Jq Za Yp]; exact congrArg some (beq_eq_false_iff_ne.mpr (by decide +kernel))
theorem kn_tell_clear : cmpM .ne μ (.str (S "tell")) (.str (S "clear")) = some true := by
  have h : eqM μ (.str (S "tell")) (.str (S "clear")) = some false := Pj
  simp only [cmpM, h]; rfl
end
inductive Ent where
  | undo (j : Int)
  | clear (nm : Str) (lo hi : Int)
  | like (nm : Str) (lo hi : Int) (nm' : Str)
  | tell (nm : Str) (lo hi v : Int)
noncomputable def Ent.mv : Ent → MV
  | .undo j => .tup [.str (S "undo"), .int j]
  | .clear nm lo hi => .tup [.str (S "clear"), .str nm, .int lo, .int hi]
  | .like nm lo hi nm' => .tup [.str (S "like"), .str nm, .int lo, .int hi, .str nm']
  | .tell nm lo hi v => .tup [.str (S "tell"), .str nm, .int lo, .int hi, .int v]
noncomputable def Ent.ok : Ent → Prop
  | .undo _ => True
  | .clear nm _ _ => PyData.strOk nm = true
  | .like nm _ _ nm' => PyData.strOk nm = true ∧ PyData.strOk nm' = true
  | .tell nm _ _ _ => PyData.strOk nm = true
noncomputable def Ent.good (names : List Str) (k : Int) : Ent → Prop
  | .undo j => 1 ≤ j ∧ j < k
  | .clear nm lo hi => nm ∈ names ∧ 0 ≤ lo ∧ lo ≤ hi ∧ hi ≤ 1000000
  | .like nm lo hi nm' => nm ∈ names ∧ nm' ∈ names ∧ 0 ≤ lo ∧ lo ≤ hi ∧ hi ≤ 1000000
  | .tell nm lo hi v => nm ∈ names ∧ 0 ≤ lo ∧ lo ≤ hi ∧ hi ≤ 1000000 ∧ -1000000000 ≤ v ∧ v ≤ 1000000000
theorem Ent.good.ok {names : List Str} {k : Int} {e : Ent} (hn : ∀ nm ∈ names, GoodN nm) (h : e.good names k) : e.ok := by
  cases e with
  | undo j => trivial
  | clear nm lo hi => exact (hn _ h.1).ok
  | like nm lo hi nm' => exact ⟨(hn _ h.1).ok, (hn _ h.2.1).ok⟩
  | tell nm lo hi v => exact (hn _ h.1).ok
theorem Ent.ok.ent {e : Ent} (h : e.ok) : EntOk e.mv := by
  have a1 : S "clear" ≠ S "undo" := by decide +kernel
  have a2 : S "like" ≠ S "undo" := by decide +kernel
  have a3 : S "tell" ≠ S "undo" := by decide +kernel
  have hi : ∀ i, Atom (.int i) := fun i => .inl ⟨i, rfl⟩
  cases e with
  | undo j => exact .inl ⟨j, rfl⟩
  | clear nm lo hi' => exact .inr ⟨_, _, rfl, a1, Yp, by simp, by simpa [hi] using .inr ⟨_, rfl, h⟩⟩
  | like nm lo hi' nm' =>
    have h1 : Atom (.str nm) := .inr ⟨_, rfl, h.1⟩
    have h2 : Atom (.str nm') := .inr ⟨_, rfl, h.2⟩
    exact .inr ⟨_, _, rfl, a2, Uv, by simp, by simp [hi, h1, h2]⟩
  | tell nm lo hi' v => exact .inr ⟨_, _, rfl, a3, Za, by simp, by simpa [hi] using .inr ⟨_, rfl, h⟩⟩
theorem GoodE.to {names : List Str} {k : Int} {v : MV} (h : GoodE names k v) : ∃ e : Ent, v = e.mv ∧ e.good names k := by
  rcases h with ⟨j, rfl, h⟩ | ⟨nm, lo, hi, rfl, h⟩ | ⟨nm, lo, hi, nm', rfl, h⟩ | ⟨nm, lo, hi, v, rfl, h⟩
  · exact ⟨.undo j, rfl, h⟩
  · exact ⟨.clear nm lo hi, rfl, h⟩
  · exact ⟨.like nm lo hi nm', rfl, h⟩
  · exact ⟨.tell nm lo hi v, rfl, h⟩
abbrev Book := List (Int × Ent)
noncomputable def Book.mv (B : Book) : List (Int × MV) := B.map fun p => (p.1, p.2.mv)
noncomputable def Book.keys (B : Book) : List Int := B.map (·.1)
noncomputable def Book.at (B : Book) (k : Int) : Option Ent := (B.find? fun p => p.1 = k).map (·.2)
theorem Book.mv_keys (B : Book) : (Book.mv B).map (·.1) = B.keys := by simp [Book.mv, Book.keys, List.map_map, Function.comp_def]
theorem Book.mv_len (B : Book) : (Book.mv B).length = B.length := by simp [Book.mv]
theorem Book.look (B : Book) (k : Int) : lookI (Book.mv B) k = (Book.at B k).map Ent.mv := by
  unfold lookI Book.mv Book.at
  induction B with
  | nil => rfl
  | cons p B ih =>
    simp only [List.map_cons, List.find?_cons]
    by_cases h : p.1 = k
    · simp [h]
    · simpa [h] using ih
theorem Book.at_mem {B : Book} (hn : B.keys.Nodup) {p : Int × Ent} (hp : p ∈ B) : Book.at B p.1 = some p.2 := by
  induction B with
  | nil => cases hp
  | cons q l ih =>
    simp only [Book.keys, List.map_cons, List.nodup_cons] at hn
    unfold Book.at
    rw [List.find?_cons]
    rcases List.mem_cons.mp hp with rfl | hp'
    · simp
    · have : q.1 ≠ p.1 := fun e => hn.1 (e ▸ List.mem_map_of_mem hp')
      simp only [this, decide_false]
      exact ih hn.2 hp'
theorem Book.at_some {B : Book} {k : Int} {e : Ent} (h : Book.at B k = some e) : (k, e) ∈ B := by
  unfold Book.at at h
  rw [Option.map_eq_some_iff] at h
  obtain ⟨p, hp, rfl⟩ := h
  have h1 := List.find?_some hp
  have h2 := List.mem_of_find?_eq_some hp
  simp only [decide_eq_true_eq] at h1
  rw [← h1]; exact h2
theorem Book.at_key {B : Book} {k : Int} (h : k ∈ B.keys) : ∃ e, Book.at B k = some e := by
  unfold Book.keys at h
  obtain ⟨p, hp, rfl⟩ := List.mem_map.mp h
  cases q : Book.at B p.1 with
  | some e => exact ⟨e, rfl⟩
  | none =>
    unfold Book.at at q
    rw [Option.map_eq_none_iff, List.find?_eq_none] at q
    exact absurd (by simp) (q p hp)
structure BOk (B : Book) : Prop where
  nodup : B.keys.Nodup
  ok : ∀ p ∈ B, p.2.ok
  len : B.length ≤ 40
theorem BOk.nodup' {B : Book} (h : BOk B) : ((Book.mv B).map (·.1)).Nodup := by rw [Book.mv_keys]; exact h.nodup
theorem BOk.ent {B : Book} (h : BOk B) : ∀ p ∈ Book.mv B, EntOk p.2 := by
  intro p hp
  obtain ⟨q, hq, rfl⟩ := List.mem_map.mp hp
  exact (h.ok q hq).ent
theorem good_all {names : List Str} : ∀ {kvs : List (Int × MV)}, (∀ p ∈ kvs, GoodE names p.1 p.2) → ∃ B : Book, kvs = Book.mv B ∧ ∀ p ∈ B, p.2.good names p.1
  | [] => fun _ => ⟨[], rfl, by simp⟩
  | p :: kvs => fun h => by
    obtain ⟨B, rfl, hB⟩ := good_all fun p hp => h p (.tail _ hp)
    obtain ⟨e, he, hg⟩ := (h p (.head _)).to
    refine ⟨(p.1, e) :: B, ?_, ?_⟩
    · simp [Book.mv, ← he]
    · intro q hq
      rcases List.mem_cons.mp hq with rfl | hq
      · exact hg
      · exact hB q hq
theorem book_at {ns : List Int} {many : Int} {kvs : List (Int × MV)} (h : BookOk ns many kvs) (hm : 0 ≤ many ∧ many ≤ 14) : ∃ (names : List Str) (B : Book), names = namesF (at0 ns 1) ∧ names.length = 3 ∧ (∀ nm ∈ names, GoodN nm) ∧ kvs = Book.mv B ∧ BOk B ∧ B.length ≤ 14 ∧ (∀ p ∈ B, p.2.good names p.1) ∧ ∀ k ∈ B.keys, 1 ≤ k ∧ k ≤ 40 := by
  have hf := P8 h hm
  obtain ⟨names, rows, cut, h3, hg, hk, he, hc, rfl, hnF⟩ := h
  have hp : (rows.drop cut ++ rows.take cut).Perm rows := by
    have := List.perm_append_comm (l₁ := rows.drop cut) (l₂ := rows.take cut)
    rwa [List.take_append_drop] at this
  obtain ⟨B, hB, hgB⟩ := good_all (names := names) (kvs := rows.drop cut ++ rows.take cut) fun p q => he p (hp.mem_iff.mp q)
  rw [hB] at hf
  rw [Book.mv_keys, Book.mv_len] at hf
  exact ⟨names, B, hnF, h3, hg, hB, ⟨hf.1, fun p hp => (hgB p hp).ok hg, by omega⟩, hf.2.1, hgB, hf.2.2.2⟩
theorem book_of {ns : List Int} {many : Int} {kvs : List (Int × MV)} (h : BookOk ns many kvs) (hm : 0 ≤ many ∧ many ≤ 14) : ∃ (names : List Str) (B : Book), names.length = 3 ∧ (∀ nm ∈ names, GoodN nm) ∧ kvs = Book.mv B ∧ BOk B ∧ B.length ≤ 14 ∧ (∀ p ∈ B, p.2.good names p.1) ∧ ∀ k ∈ B.keys, 1 ≤ k ∧ k ≤ 40 := by
  obtain ⟨names, B, _, r⟩ := book_at h hm
  exact ⟨names, B, r⟩
end Mine
end
section
set_option maxRecDepth 100000
namespace Mine
open PySem PySem.Calls PyProof.Rows PySem.W
abbrev bmV : List Value := [.type "ValueError", .type "Exception", .type "BaseException", .type "object"]
noncomputable def qn : List Str := ["__init__", "__getattribute__", "__getattr__", "__class__"]
noncomputable def ClsAt (h : Heap) (C : Addr) (own : List Addr) : Prop := ∃ N nm q bs hdct sn sub ab col dd k0 k1 k2 k3 k5 mN, h.get? C = some (excClassObj nm q C N bs (own.map .ref ++ bmV) hdct sn sub ab col dd k0 k1 k2 k3 k5 "ValueError.__new__") ∧ h.Ns N mN ∧ ∀ n ∈ qn, mN n = none
theorem ClsAt.keeps {h h' : Heap} {C : Addr} {own : List Addr} (x : ClsAt h C own) (k : ∀ b o, h.get? b = some o → h'.get? b = some o) : ClsAt h' C own := by
  obtain ⟨N, nm, q, bs, hdct, sn, sub, ab, col, dd, k0, k1, k2, k3, k5, mN, h1, h2, h3⟩ := x
  exact ⟨N, nm, q, bs, hdct, sn, sub, ab, col, dd, k0, k1, k2, k3, k5, mN, k _ _ h1, h2.keeps k, h3⟩
section
variable {M : Model} {prog : Program} {w : World} {A : Around} {E : Value → Shared → Prop} {h : Heap} {g : Array GenState} {d : Drawn} {t : Nat} {os : OsState} {a C D : Addr} {o : Obj}
theorem Ue {n : Str} {y : Option Value} {Q : Option Value → Shared → Prop} (K : ClsAt h C [D]) (K' : ClsAt h D []) (hn : n ∈ qn) (hB : typeLookup (.type "ValueError") n = pure y) (hq : Q y ⟨h, g, d, t, os⟩) : wpAny M A (typeLookup (.ref C) n) Q E ⟨h, g, d, t, os⟩ := by
  obtain ⟨N, nm, q, bs, hdct, sn, sub, ab, col, dd, k0, k1, k2, k3, k5, mN, h1, h2, h3⟩ := K
  obtain ⟨N', nm', q', bs', hdct', sn', sub', ab', col', dd', k0', k1', k2', k3', k5', mN', h1', h2', h3'⟩ := K'
  have hrest : lookupAlong bmV n = pure y := by rw [typeLookup_eq, F.attrBase_ValueError.mro] at hB; exact hB
  rw [typeLookup_eq]
  refine wpAny_bind (wpAny_mroOf_exc h1 ?_)
  show wpAny M A (lookupAlong (.ref C :: .ref D :: bmV) n) Q E _
  rw [lookupAlong_cons]
  refine wpAny_bind (wpAny_classOwn_exc h1 h2 ?_)
  rw [h3 n hn]
  show wpAny M A (lookupAlong (.ref D :: bmV) n) Q E _
  rw [lookupAlong_cons]
  refine wpAny_bind (wpAny_classOwn_exc h1' h2' ?_)
  rw [h3' n hn]
  show wpAny M A (lookupAlong bmV n) Q E _
  rw [hrest]
  exact wpAny_pure hq
theorem As {base : Value} {Q : Bool → Shared → Prop} (K : ClsAt h C [D]) (hq : Q ((Value.ref C :: .ref D :: bmV).contains base) ⟨h, g, d, t, os⟩) : wpAny M A (isSubtype (.ref C) base) Q E ⟨h, g, d, t, os⟩ := by
  obtain ⟨N, nm, q, bs, hdct, sn, sub, ab, col, dd, k0, k1, k2, k3, k5, mN, h1, h2, h3⟩ := K
  exact wpAny_isSubtype_exc h1 hq
theorem ve_class : typeLookup (.type "ValueError") "__class__" = pure (some (.builtin "object.__class__")) := by rw [typeLookup_type, builtinLookup_eq_fast]; kernel_rfl
theorem Pr {R : Result → Shared → Prop} (K : ClsAt h C [D]) (hx : h.get? a = some o) (hc : o.cls = .ref C) (hq : R (.ok (.ret (.ref C))) ⟨h, g, d, t, os⟩) :
    codeAny (model prog w) A (.call (.builtin "getset_descriptor.__get__") ⟨[.builtin "object.__class__", .ref a, .ref C], []⟩) R ⟨h, g, d, t, os⟩ := by
  have hT5 : (⟨h, g, d, t, os⟩ : Shared).TypeIs (.builtin "object.__class__") "getset_descriptor" := F.typeOf_object_class
  have hcB : (Value.ref C :: .ref D :: bmV).contains (.type (".".intercalate ("object.__class__".cutAt '.').dropLast)) = true := by
    rw [F.owner_object_class, List.contains_cons, List.contains_cons]
    have : bmV.contains (.type "object") = true := by decide +kernel
    rw [this]; simp
  refine codeAny_call_builtin F.slot_gs_get.plain F.entry_gs_get (F.slot_gs_get.check _ _ _ _ _ _ _ _ hT5 (F.args_gs_get _ _ _) ?_)
  repeat (any_goals (first | assumption | (with_reducible refine wpAny_loadPart_at hx ?_; rw [hc]) | (with_reducible refine As K ?_; rw [hcB]) | wp_step))
  refine ⟨Code.quiet_builtin _ (by decide +kernel), codeAny_builtin F.entry_object_class ?_⟩
  repeat (any_goals (first | assumption | (with_reducible refine wpAny_loadPart_at hx ?_; rw [hc]) | wp_step))
theorem Np {tk : Tok} {Q : Fin → Shared → Prop} (K : ClsAt h C [D]) (K' : ClsAt h D []) (hx : h.get? a = some o) (hc : o.cls = .ref C) (hq : Q (.done (.ret (.ref C))) ⟨h, g, d, t, os⟩) :
    wpAny (model prog w) A (Builtin.«object.__getattribute__» ⟨[.ref a, .str "__class__" tk], []⟩) Q E ⟨h, g, d, t, os⟩ := by
  have hT5 : (⟨h, g, d, t, os⟩ : Shared).TypeIs (.builtin "object.__class__") "getset_descriptor" := F.typeOf_object_class
  have f5 := F.typeOf_object_class
  have f6 := F.slot_gs_get.lookup
  have f7 := F.slot_gs_set.lookup
  have hmA : ("__class__" : Str) ∈ qn := .tail _ (.tail _ (.tail _ (.head _)))
  repeat (any_goals (first | assumption | (with_reducible refine wpAny_loadPart_at hx ?_; rw [hc]) | with_reducible refine Ue K K' hmA ve_class ?_ | wp_step))
  refine Pr K hx hc ?_
  repeat (any_goals (first | assumption | wp_step))
theorem C5 {nameV : Value} {Q : Unit → Shared → Prop} (K : ClsAt h C [D]) (hx : h.get? a = some o) (hc : o.cls = .ref C) (hq : Q () ⟨h, g, d, t, os⟩) : wpAny M A (checkBuiltinCall "BaseException.__getattribute__" ⟨[.ref a, nameV], []⟩) Q E ⟨h, g, d, t, os⟩ := by
  have hk : builtinKind "BaseException.__getattribute__" = some .slot := by decide +kernel
  have hsplit : splitId "BaseException.__getattribute__" = some ("BaseException", "__getattribute__") := by decide +kernel
  have hcB : (Value.ref C :: .ref D :: bmV).contains (.type "BaseException") = true := by
    rw [List.contains_cons, List.contains_cons]
    have : bmV.contains (.type "BaseException") = true := by decide +kernel
    rw [this]; simp
  have ha := F.args_bexc_ga (.ref a) nameV
  simp only [checkBuiltinCall, hk, hsplit]
  refine wpAny_bind ?_
  · unfold isInstance
    repeat (first | (with_reducible refine wpAny_loadPart_at hx ?_; rw [hc]) | (with_reducible refine As K ?_; rw [hcB]) | wp_step)
    exact hq
theorem P4 {tk : Tok} {R : Result → Shared → Prop} (K : ClsAt h C [D]) (K' : ClsAt h D []) (hx : h.get? a = some o) (hc : o.cls = .ref C) (hq : R (.ok (.ret (.ref C))) ⟨h, g, d, t, os⟩) :
    codeAny (model prog w) A (.call (.builtin "BaseException.__getattribute__") ⟨[.ref a, .str "__class__" tk], []⟩) R ⟨h, g, d, t, os⟩ :=
  codeAny_call_builtin F.attrBase_ValueError.ga.plain F.entry_bexc_ga (C5 K hx hc (Np K K' hx hc hq))
theorem C3 {tk : Tok} {fill expr : Bool} {Q : Value → Shared → Prop} (K : ClsAt h C [D]) (K' : ClsAt h D []) (hx : h.get? a = some o) (hc : o.cls = .ref C) (hq : Q (.ref C) ⟨h, g, d, t, os⟩) :
    wpAny (model prog w) A (getAttrBy (.ref a) (.str "__class__" tk) fill expr) Q E ⟨h, g, d, t, os⟩ := by
  have f3 := F.attrBase_ValueError.ga.bind (.ref a)
  have hx0 : (expr && onTheHeap (Value.builtin "BaseException.__getattribute__")) = false := by cases expr <;> rfl
  have hx2 : (Value.builtin "BaseException.__getattribute__" == Value.builtin "object.__getattribute__") = false := by decide +kernel
  have hx1 : (onTheHeap (Value.ref C) && Value.builtin "BaseException.__getattribute__" == Value.builtin "object.__getattribute__") = false := by rw [hx2]; rfl
  have hm1 : ("__getattribute__" : Str) ∈ qn := .tail _ (.head _)
  have hm2 : ("__getattr__" : Str) ∈ qn := .tail _ (.tail _ (.head _))
  repeat (any_goals (first | assumption | (with_reducible refine wpAny_loadPart_at hx ?_; rw [hc]) | with_reducible refine Ue K K' hm1 F.attrBase_ValueError.ga.lookup ?_ | with_reducible refine Ue K K' hm2 F.attrBase_ValueError.noGetattr ?_ | wp_step))
  refine P4 K K' hx hc ?_
  repeat (any_goals (first | assumption | wp_step))
theorem P5 {Q : Option Value → Shared → Prop} (K : ClsAt h C [D]) (K' : ClsAt h D []) (hx : h.get? a = some o) (hc : o.cls = .ref C) (hq : Q (some (.ref C)) ⟨h, g, d, t + 1, os⟩) : wpAny (model prog w) A (getAttr? (.ref a) "__class__") Q E ⟨h, g, d, t, os⟩ := by
  unfold getAttr? getAttrBy?
  repeat (any_goals (first | assumption | with_reducible apply C3 K K' hx hc | wp_step))
theorem Jv {own : List Addr} (K : ClsAt h C own) : Looks M h (isType (.ref C)) true := by
  obtain ⟨N, nm, q, bs, hdct, sn, sub, ab, col, dd, k0, k1, k2, k3, k5, mN, h1, h2, h3⟩ := K
  intro A' Q' E' s' k q
  unfold isType loadHead
  exact wpAny_bind (wpAny_loadPart (k _ _ h1) (wpAny_pure q))
theorem Uw {v : Value} (hx : h.get? a = some o) (hc : o.cls = v) : Looks M h (typeOf (.ref a)) v := by
  intro A' Q' E' s' k q
  obtain ⟨h', g', d', t', os'⟩ := s'
  have hx' := k _ _ hx
  repeat (first | assumption | (with_reducible refine wpAny_loadPart_at hx' ?_; rw [hc]) | wp_step)
theorem Ob {own : List Addr} (K : ClsAt h C own) : Looks M h (typeOf (.ref C)) (.type "type") := by
  obtain ⟨N, nm, q, bs, hdct, sn, sub, ab, col, dd, k0, k1, k2, k3, k5, mN, h1, h2, h3⟩ := K
  exact Uw h1 rfl
theorem looks_sub {c : Value} (K : ClsAt h C [D]) : Looks M h (isSubtype (.ref C) c) ((Value.ref C :: .ref D :: bmV).contains c) := by
  intro A' Q' E' s' k q
  obtain ⟨h', g', d', t', os'⟩ := s'
  exact As (K.keeps k) q
theorem isi_own {c : Value} {v : Bool} {Q : Value → Shared → Prop} (K : ClsAt h C [D]) (K' : ClsAt h D []) (hx : h.get? a = some o) (hc : o.cls = .ref C) (hty : ∀ M, Looks M h (typeOf c) (.type "type")) (his : ∀ M, Looks M h (isType c) true) (hv : (Value.ref C :: .ref D :: bmV).contains c = v)
    (hq : ∀ tk, Q (.bool v) ⟨h, g, d, tk, os⟩) : wpAny (model prog w) A (call (.builtin "isinstance") [.ref a, c]) Q E ⟨h, g, d, t, os⟩ := by
  refine call_isinstance_of ?_ (by intro e; cases e)
  unfold Builtin.«isinstance.nested»
  have LT : Looks (model prog w) h (typeOf (.ref a)) (.ref C) := Uw hx hc
  refine wpAny_bind (LT.at ?_)
  by_cases q : ((Value.ref C : Value) == c) = true
  · rw [if_pos q]
    have hv' : v = true := by rw [← hv, List.contains_cons]; rw [beq_iff_eq] at q; subst q; simp
    subst hv'
    first
      | ((repeat lk); exact hq t)
      | exact wpAny_bind (wpAny_rule (hq t))
      | exact wpAny_bind (wpAny_rule (wpAny_pure (hq t)))
  · rw [if_neg q]
    have hsub : Looks (model prog w) h (isSubtype (.ref C) c) v := hv ▸ looks_sub K
    have LI : Looks (model prog w) h (isInstance (.ref a) c) v := LT.andThen hsub
    refine wpAny_bind ((hty _).at ?_)
    rw [if_pos (by decide)]
    k_delta "plainIsInstance"
    refine wpAny_bind (wpAny_bind ((his _).at ?_))
    simp only [Bool.not_true, Bool.false_eq_true, if_false]
    refine wpAny_bind (LI.at ?_)
    cases v with
    | true =>
      first
        | exact wpAny_pure (wpAny_pure (hq t))
        | (simp only [if_true]; first | exact wpAny_pure (wpAny_pure (hq t)) | exact wpAny_pure (hq t) | exact wpAny_bind (wpAny_pure (wpAny_pure (hq t))))
    | false =>
      simp only [Bool.false_eq_true, if_false]
      refine wpAny_bind (P5 K K' hx hc ?_)
      refine wpAny_bind ((Jv K).at ?_)
      simp only [Bool.not_true, Bool.false_eq_true, if_false]
      refine wpAny_bind (wpAny_rule ?_)
      refine hsub.at ?_
      first
        | exact wpAny_pure (hq _)
        | exact wpAny_pure (wpAny_pure (hq _))
        | exact wpAny_bind (wpAny_pure (wpAny_pure (hq _)))
end
end Mine
end
section
set_option maxRecDepth 100000
namespace Mine
open PySem PySem.Calls PyProof.Rows PySem.W
structure Xcs (h₀ : Heap) (mg mb : Str → Option Value) (bk bad : String) (others : List String) (C D : Addr) : Prop where
  gD : mg (Str.ofString bk) = some (.ref D)
  gC : mg (Str.ofString bad) = some (.ref C)
  cD : ClsAt h₀ D []
  cC : ClsAt h₀ C [D]
  oth : ∀ n ∈ others, ∃ X, mg (Str.ofString n) = some (.ref X) ∧ ClsAt h₀ X [D] ∧ X ≠ C ∧ X ≠ D
  ve : mg (Str.ofString "ValueError") = none ∧ mb (Str.ofString "ValueError") = some (.type "ValueError")
noncomputable def isGlobN (S : Sc) (g : String) (x : PySem.Expr) : Bool := decide ((node x).t = .name) && S.isGlob g (node x).s
theorem Ng {S : Sc} {g : String} {x : PySem.Expr} (h : isGlobN S g x = true) : ∃ n p, x = .Name n p ∧ S.isGlob g n = true := ⟨_, _, inv (and2 h).1, (and2 h).2⟩
noncomputable def oneStr (l : List PySem.Expr) : Bool := match l with
  | [y] => decide ((node y).t = .cstr)
  | _ => false
theorem oneStr_inv {l : List PySem.Expr} (h : oneStr l = true) : ∃ s k p, l = [.Constant (.str s) k p] := by
  cases l with
  | nil => cases h
  | cons y l => cases l with
    | nil => exact ⟨(node y).s, (node y).k, (node y).p, congrArg (fun z => [z]) (inv h)⟩
    | cons _ _ => cases h
noncomputable def chkRaise (cls : String) (tab : List (Nat × Str)) (names : List (Str × NameKind)) (x : PySem.Stmt) : Bool := match x with
  | .Raise (some c) none _ => callsG ⟨tab, names, []⟩ cls c && oneStr (node c).l
  | _ => false
theorem P7 {S : Sc} {g : String} {x : PySem.Expr} (h : callsG S g x = true) : ∃ n np p, x = .Call (.Name n np) (node x).l [] p ∧ S.isGlob g n = true := by
  unfold callsG at h
  simp only [Bool.and_eq_true, List.isEmpty_iff] at h
  refine ⟨(node x).s, (node x).p2, (node x).p, ?_, h.1.2⟩
  have := inv h.1.1
  simp only [buildT, h.2] at this
  exact this
theorem C4 {cls : String} {tab : List (Nat × Str)} {names : List (Str × NameKind)} {x : PySem.Stmt} (h : chkRaise cls tab names x = true) : ∃ n np y k p' cpos pos, x = .Raise (some (.Call (.Name n np) [.Constant (.str y) k p'] [] cpos)) none pos ∧ (⟨tab, names, []⟩ : Sc).isGlob cls n = true := by
  unfold chkRaise at h
  split at h
  · rename_i c pos
    rw [Bool.and_eq_true] at h
    obtain ⟨n, np, p, e, hg⟩ := P7 h.1
    obtain ⟨y, k, p', e'⟩ := oneStr_inv h.2
    rw [e'] at e
    exact ⟨n, np, y, k, p', p, pos, by rw [e], hg⟩
  · cases h
section
variable {prog : Program} {w : World} {G : String → Option MV} {Γ : String → Option MFun} {h₀ : Heap} {mg mb : Str → Option Value}
theorem isGlob_any {tab : List (Nat × Str)} {names : List (Str × NameKind)} {f f' : List String} {g : String} {n : Str} (h : (⟨tab, names, f⟩ : Sc).isGlob g n = true) : (⟨tab, names, f'⟩ : Sc).isGlob g n = true := h
theorem Uu {bk bad : String} {others : List String} {K D : Addr} (pg : PG prog w G Γ h₀ mg mb) (X : Xcs h₀ mg mb bk bad others K D) {S : Sc} {env : Env} {vars : MVars} {fz : List Addr} {μ : MH} {s : Shared} {A : Around} {E : Value → Shared → Prop} {Q : Flow → Shared → Prop} {x : PySem.Stmt} (C : Cur prog w h₀ S env vars fz μ s) (hh : A.handled = none) (hx : chkRaise bad S.tab S.names x = true)
    (hE : ∀ e h' tk args, Heap.MadeExcOf s.heap h' e (.ref K) args → E (.ref e) { s with heap := h', toks := tk }) : wpAny (model prog w) A (exec x env) Q E s := by
  obtain ⟨n, np, y, k, p', cpos, pos, rfl, hg⟩ := C4 hx
  have kp : ∀ b o, h₀.get? b = some o → s.heap.get? b = some o := fun b o e => (C.base b o e).1
  have KC := X.cC.keeps kp
  have KD := X.cD.keeps kp
  obtain ⟨N, nm, q, bs, hdct, sn, sub, ab, col, dd, k0, k1, k2, k3, k5, mN, h1, h2, h3⟩ := KC
  obtain ⟨N', nm', q', bs', hdct', sn', sub', ab', col', dd', k0', k1', k2', k3', k5', mN', h1', h2', h3'⟩ := KD
  have hqi : ("__init__" : Str) ∈ qn := .head _
  refine wpAny_Raise_call_subU (bmB := bmV) F.excBase_ValueError (by decide +kernel) F.excBase_ValueError (C := K) (mN := mN) (bm := [.ref D] ++ bmV) (nm := nm) (q := q) (N := N) (bs := bs) (hdct := hdct) (sn := sn) (sub := sub) (ab := ab) (col := col) (dd := dd) (k0 := k0) (k1 := k1) (k2 := k2) (k3 := k3) (k5 := k5) (by rw [List.singleton_append, List.contains_cons, show bmV.contains (.type "BaseException") = true by decide +kernel, Bool.or_true]) hh rfl (h3 _ hqi) ?_
  refine Kw pg C (S := S) (isGlob_any hg) X.gC ⟨rfl, ?_⟩
  rw [show backTo cpos (starEach [.Constant (.str y) k p'] env) = [(false, eval (.Constant (.str y) k p') env)] from rfl]
  refine Xz rfl (Calls.spliced_cons (Calls.Constant_str (Calls.spliced_nil ?_)))
  refine ⟨rfl, by show 1 ≤ sizeLine; decide, h1, h2, .own h1' h2' (h3' _ hqi) .base, fun h' e hm => hE e h' _ _ hm⟩
end
end Mine
end
section
set_option maxRecDepth 100000
namespace Mine
open PySem PySem.Calls PyProof.Rows PySem.W
structure Stk (A : Around) (h₀ h : Heap) (μ : MH) (outer : List Env) : Prop where
  fr : A.frames = some outer
  ff : h.FunFrames h₀ outer
  nt : ∀ e ∈ outer, ∀ L, e.frame = some L → μ L = none
noncomputable def Upto (μ : MH) (h h' : Heap) : Prop := ∀ b o, μ b = none → h.get? b = some o → (∀ vs, o.data ≠ .fields vs) → ∃ sl, h'.get? b = some { o with slots := sl }
theorem Kz {h h' h₀ : Heap} {μ : MH} : ∀ {l : List Env}, h.FunFrames h₀ l → (∀ e ∈ l, ∀ L, e.frame = some L → μ L = none) → (∀ b o, μ b = none → h.get? b = some o → h'.get? b = some o) → h'.FunFrames h₀ l
  | [], _ => fun _ _ => trivial
  | env :: l, ⟨hk, ⟨L, o, hf, hn, ho, hd⟩, hr⟩ => fun nt k => ⟨hk, ⟨L, o, hf, hn, k L o (nt env (.head _) L hf) ho, hd⟩, Kz hr (fun e he => nt e (.tail _ he)) k⟩
section
variable {prog : Program} {w : World} {G : String → Option MV} {Γ : String → Option MFun} {h₀ : Heap} {mg mb : Str → Option Value}
theorem Jz {S : Sc} {env : Env} {vars : MVars} {fz : List Addr} {μ : MH} {s : Shared} {outer : List Env} (C : Cur prog w h₀ S env vars fz μ s) (hf : env.frame = some env.locals) (ff : s.heap.FunFrames h₀ outer) : s.heap.FunFrames h₀ (env :: outer) := by
  refine ⟨by rw [C.fr.kind]; decide, ?_, ff⟩
  obtain ⟨m, ⟨o, es, ep, ho, hd, _⟩, _⟩ := C.fr.ns
  exact ⟨env.locals, o, hf, C.newl, ho, fun vs q => by rw [hd] at q; cases q⟩
noncomputable def needBody (t bad : String) : List MS := [.ite (.not (.call t [.var 0])) [.opq (chkRaise bad)] [], .ret (.var 0)]
theorem need_native {bk bad t f : String} {others : List String} {K D : Addr} (pg : PG prog w G Γ h₀ mg mb) (X : Xcs h₀ mg mb bk bad others K D) {d : Nat} {v : MV} {val : Value} {fz : List Addr} {μ : MH} {s : Shared} {A : Around} {fa : Addr} {outer : List Env} {R : Result → Shared → Prop}
    (hΓ : Γ f = some ⟨1, needBody t bad⟩) (hA : OkA (d + 1) A) (B : Base h₀ fz μ s) (r : RepH prog w μ s.heap) (fi : FzIn fz μ) (rv : RepV s.heap v val) (hfn : FnAt h₀ f fa) (st : Stk A h₀ s.heap μ outer)
    (hbad : ∀ Q : MQ, (∀ μ', Q (.bool false) μ') → calls G Γ d t [v] fz Q X0 μ)
    (hR : ∀ e a0 s', Heap.FlyingW h₀ outer e (.ref K) a0 s'.heap → Upto μ s.heap s'.heap → s'.os = s.os → s'.gens = s.gens → R (.error (.ref e)) s') : codeAny (model prog w) A (.call (.ref fa) ⟨[val], []⟩) R s := by
  refine P0 pg hΓ rfl hA B r fi (vs := [v]) (by simp only [RepVs]; exact ⟨rv, trivial⟩) hfn fun S env body s₁ hb C hA' en => ?_
  cases body with
  | nil => exact (Bool.false_ne_true hb).elim
  | cons x xs =>
    replace hb := Xy hb
    obtain ⟨tt, y, z, p, rfl, h⟩ := Ki hb.1
    simp only [Bool.and_eq_true] at h
    refine wpAny_execs_cons (wpAny_If (wpAny_mono ((Y5 pg (Ym pg d) (.not (.call t [.var 0]))).2 S _ env _ fz μ s₁ (fun b _ => b = true) _ _ h.1.1 hA' C ⟨v, rfl, hbad _ fun μ' => ⟨false, rfl, true, rfl, rfl⟩⟩) (fun b s₂ h₂ => ?_) fun _ _ e => e))
    obtain ⟨μ₂, hq₂, r₂, g₂⟩ := h₂
    obtain rfl := hq₂
    have C₂ := C.grow g₂ r₂
    have hy := h.1.2
    cases y with
    | nil => exact (Bool.false_ne_true hy).elim
    | cons x' ys =>
      replace hy := Xy hy
      have k2 : ∀ b o, μ b = none → s.heap.get? b = some o → s₂.heap.get? b = some o := fun b o hm e => (g₂.keep b o (.inl hm) (en.keep b o e)).1
      refine wpAny_execs_cons (Uu pg X C₂ hA'.hand hy.1 fun e h' tk args hm => ?_)
      refine wpAny_leaves_madeW (Around.frames_deeper st.fr) en.frame (fun b o e => (C₂.base b o e).1) (Jz C₂ en.frame (Kz st.ff st.nt k2)) hm fun h'' t' x1 _ _ x4 => ?_
      exact hR e (.ref t') _ x1 (fun b o hm' e' hd => x4 b o (hm.keeps b o (k2 b o hm' e')) hd) (g₂.os.trans en.os) (g₂.gens.trans en.gens)
end
end Mine
end
section
set_option maxRecDepth 100000
namespace Mine
open PySem PySem.Calls PyProof.Rows PySem.W
noncomputable def two (l : List PySem.Expr) (f g : PySem.Expr → Bool) : Bool := match l with
  | [y, z] => f y && g z
  | _ => false
theorem two_inv {l : List PySem.Expr} {f g : PySem.Expr → Bool} (h : two l f g = true) : ∃ y z, l = [y, z] ∧ f y = true ∧ g z = true := by
  cases l with
  | nil => cases h
  | cons y l => cases l with
    | nil => cases h
    | cons z l => cases l with
      | nil => exact ⟨y, z, rfl, and2 h⟩
      | cons _ _ => cases h
noncomputable def chkIsi (S : Sc) (i : Nat) (cls : String) (x : PySem.Expr) : Bool := callsG S "isinstance" x && two (node x).l (isE S (.var i)) (isGlobN S cls)
theorem P6 {S : Sc} {i : Nat} {cls : String} {x : PySem.Expr} (h : chkIsi S i cls x = true) : ∃ g gp y n p cp, x = .Call (.Name g gp) [y, .Name n p] [] cp ∧ S.isGlob "isinstance" g = true ∧ isE S (.var i) y = true ∧ S.isGlob cls n = true := by
  obtain ⟨h1, h2⟩ := and2 h
  obtain ⟨g, gp, cp, e, hg⟩ := P7 h1
  obtain ⟨y, z, e', hy, hz⟩ := two_inv h2
  obtain ⟨n, p, rfl, hn⟩ := Ng hz
  rw [e'] at e
  exact ⟨g, gp, y, n, p, cp, e, hg, hy, hn⟩
noncomputable def chkIsis (S : Sc) (i : Nat) : List String → List PySem.Expr → Bool
  | [], [] => true
  | c :: cs, x :: xs => chkIsi S i c x && chkIsis S i cs xs
  | _, _ => false
section
variable {prog : Program} {w : World} {G : String → Option MV} {Γ : String → Option MFun} {h₀ : Heap} {mg mb : Str → Option Value}
noncomputable def Says (h₀ : Heap) (mg mb : Str → Option Value) (K D : Addr) (cls : String) (b : Bool) : Prop := ∃ c, (mg (Str.ofString cls) = some c ∨ (mg (Str.ofString cls) = none ∧ mb (Str.ofString cls) = some c)) ∧ (∀ M, Looks M h₀ (typeOf c) (.type "type")) ∧ (∀ M, Looks M h₀ (isType c) true) ∧ (Value.ref K :: .ref D :: bmV).contains c = b
theorem says_bad {bk bad : String} {others : List String} {K D : Addr} (X : Xcs h₀ mg mb bk bad others K D) : Says h₀ mg mb K D bad true := ⟨_, .inl X.gC, fun _ => Ob X.cC, fun _ => Jv X.cC, by simp⟩
theorem says_ve {bk bad : String} {others : List String} {K D : Addr} (X : Xcs h₀ mg mb bk bad others K D) : Says h₀ mg mb K D "ValueError" true := ⟨_, .inr X.ve, fun _ => Looks.of_pure (kitMeta_of (by decide +kernel)), fun _ => Looks.of_pure rfl, by
  rw [List.contains_cons, List.contains_cons, show bmV.contains (.type "ValueError") = true by decide +kernel]; simp⟩
theorem says_oth {bk bad : String} {others : List String} {K D : Addr} (X : Xcs h₀ mg mb bk bad others K D) {n : String} (h : n ∈ others) : Says h₀ mg mb K D n false := by
  obtain ⟨Y, h1, h2, h3, h4⟩ := X.oth n h
  refine ⟨_, .inl h1, fun _ => Ob h2, fun _ => Jv h2, ?_⟩
  have a : ((Value.ref Y : Value) == .ref K) = false := by rw [beq_eq_false_iff_ne]; exact fun e => h3 (Value.ref.inj e)
  have b : ((Value.ref Y : Value) == .ref D) = false := by rw [beq_eq_false_iff_ne]; exact fun e => h4 (Value.ref.inj e)
  rw [List.contains_cons, List.contains_cons, a, b]
  rfl
theorem Cur.toks {S : Sc} {env : Env} {vars : MVars} {fz : List Addr} {μ : MH} {s s' : Shared} (C : Cur prog w h₀ S env vars fz μ s) (h : s'.heap = s.heap) : Cur prog w h₀ S env vars fz μ s' := by
  obtain ⟨hp, g, d, t, os⟩ := s
  obtain ⟨hp', g', d', t', os'⟩ := s'
  obtain rfl : hp' = hp := h
  exact ⟨C.base, C.heap, C.fzin, C.fr, C.newl, C.newc, C.known⟩
theorem Og {K D : Addr} (pg : PG prog w G Γ h₀ mg mb) (cC : ClsAt h₀ K [D]) (cD : ClsAt h₀ D []) {S : Sc} {env : Env} {vars : MVars} {fz : List Addr} {μ : MH} {s : Shared} {A : Around} {E : Value → Shared → Prop} {Q : Value → Shared → Prop} {x : PySem.Expr} {cls : String} {b : Bool} {i : Nat} {e : Addr} {oe : Obj}
    (C : Cur prog w h₀ S env vars fz μ s) (hv : vars i = some (.ref e)) (he : s.heap.get? e = some oe) (hc : oe.cls = .ref K) (hs : Says h₀ mg mb K D cls b) (hx : chkIsi S i cls x = true) (hq : ∀ tk, Q (.bool b) { s with toks := tk }) : wpAny (model prog w) A (eval x env) Q E s := by
  obtain ⟨g, gp, y, n, p, cp, rfl, hg, hy, hn⟩ := P6 hx
  have kp : ∀ b o, h₀.get? b = some o → s.heap.get? b = some o := fun b o e => (C.base b o e).1
  refine wpAny_Call_ofName (Zq pg C hg (v := .builtin "isinstance") (by decide) ?_)
  show wpAny _ A (callWith cp (.builtin "isinstance") [] (backTo cp (starEach [y, .Name n p] env)) []) _ _ s
  rw [show backTo cp (starEach [y, .Name n p] env) = [(false, eval y env), (false, eval (.Name n p) env)] by rw [Zv hy]; rfl]
  refine callWith_builtin rfl (Xz rfl ?_)
  obtain ⟨yn, yp, rfl, hyv⟩ := Jx hy
  refine Calls.spliced_cons (wpAny_Name (Zx C hyv hv fun u ru => ?_) (Yj hyv))
  obtain rfl : u = .ref e := ru
  obtain ⟨c, hl, hty, his, hval⟩ := hs
  have ld : ∀ {Q : Value → Shared → Prop}, Q c s → wpAny (model prog w) A (eval (.Name n p) env) Q E s := fun hq => by
    rcases hl with h1 | ⟨h1, h2⟩
    · exact Kw pg C hn h1 hq
    · obtain ⟨rfl, hk, hd⟩ := Z8 hn
      refine Name_function_global C.fr.kind (by unfold Env.kindOf; rw [C.fr.names]; exact hk) (loadGlobal_builtin (mg := mg) (mb := mb) ?_ h1 ?_ h2 hq) hd
      · rw [C.fr.glob]; exact pg.g.keeps kp
      · rw [C.fr.bui]; exact pg.b.keeps kp
  refine Calls.spliced_cons (ld (Calls.spliced_nil ?_))
  obtain ⟨hp, g', d', t', os'⟩ := s
  exact isi_own (cC.keeps kp) (cD.keeps kp) he hc (fun M => (hty M).keeps kp) (fun M => (his M).keeps kp) hval hq
theorem Ab {K D : Addr} (pg : PG prog w G Γ h₀ mg mb) (cC : ClsAt h₀ K [D]) (cD : ClsAt h₀ D []) {S : Sc} {env : Env} {vars : MVars} {fz : List Addr} {μ : MH} {A : Around} {E : Value → Shared → Prop} {b : Bool} {i : Nat} {e : Addr} {oe : Obj} (hv : vars i = some (.ref e)) (hc : oe.cls = .ref K) {p : Pos} :
    ∀ (cs : List String) (xs : List PySem.Expr) (s : Shared) (Q : List Value → Shared → Prop), Cur prog w h₀ S env vars fz μ s → s.heap.get? e = some oe → (∀ c ∈ cs, Says h₀ mg mb K D c b) → chkIsis S i cs xs = true → (∀ tk, Q (cs.map fun _ => .bool b) { s with toks := tk }) → wpAny (model prog w) A (spliced (backTo p (starEach xs env))) Q E s
  | [], [], s, Q, C, he, hs, h, hq => by
    obtain ⟨hp, g', d', t', os'⟩ := s
    exact Calls.spliced_nil (hq t')
  | c :: cs, x :: xs, s, Q, C, he, hs, h, hq => by
    obtain ⟨h1, h2⟩ := and2 h
    have hx : backTo p (starEach (x :: xs) env) = (false, eval x env) :: backTo p (starEach xs env) := by
      obtain ⟨g, gp, y, n, p, cp, rfl, _⟩ := P6 h1
      rfl
    rw [hx]
    refine Calls.spliced_cons (Og pg cC cD C hv he hc (hs c (.head _)) h1 fun tk => ?_)
    exact Ab pg cC cD hv hc cs xs _ _ (C.toks rfl) he (fun c' h' => hs c' (.tail _ h')) h2 fun tk' => hq tk'
  | [], _ :: _, s, Q, C, he, hs, h, hq => (Bool.false_ne_true h).elim
  | _ :: _, [], s, Q, C, he, hs, h, hq => (Bool.false_ne_true h).elim
end
end Mine
end
section
set_option maxRecDepth 100000
namespace Mine
open PySem PySem.Calls PyProof.Rows PySem.W
noncomputable def three (l : List PySem.Expr) (f g k : PySem.Expr → Bool) : Bool := match l with
  | [y, z, u] => f y && (g z && k u)
  | _ => false
theorem three_inv {l : List PySem.Expr} {f g k : PySem.Expr → Bool} (h : three l f g k = true) : ∃ y z u, l = [y, z, u] ∧ f y = true ∧ g z = true ∧ k u = true := by
  cases l with
  | nil => cases h
  | cons y l => cases l with
    | nil => cases h
    | cons z l => cases l with
      | nil => cases h
      | cons u l => cases l with
        | nil => exact ⟨y, z, u, rfl, (and2 h).1, and2 (and2 h).2⟩
        | cons _ _ => cases h
noncomputable def chkK1 (S : Sc) (ei ki : Nat) (cs : List String) (s : PySem.Stmt) : Bool := decide ((nodeS s).t = .asn) && (S.isSt ki (nodeS s).s && (decide ((node (nodeS s).a).t = .list) && chkIsis S ei cs (node (nodeS s).a).l))
theorem chkK1_inv {S : Sc} {ei ki : Nat} {cs : List String} {s : PySem.Stmt} (h : chkK1 S ei ki cs s = true) : ∃ y py xs lp p, s = .Assign [.Name y py] (.List xs lp) p ∧ S.isSt ki y = true ∧ chkIsis S ei cs xs = true := by
  obtain ⟨h1, h2⟩ := and2 h
  obtain ⟨h2, h3⟩ := and2 h2
  obtain ⟨h3, h4⟩ := and2 h3
  have e : s = .Assign [.Name (nodeS s).s (nodeS s).p2] (nodeS s).a (nodeS s).p := V4 h1
  have e' : (nodeS s).a = .List (node (nodeS s).a).l (node (nodeS s).a).p := inv h3
  exact ⟨_, _, _, _, _, e.trans (congrArg (fun z => PySem.Stmt.Assign [.Name (nodeS s).s (nodeS s).p2] z (nodeS s).p) e'), h2, h4⟩
noncomputable def chkK2 (S : Sc) (ei ki : Nat) (cs : List String) (s : PySem.Stmt) : Bool := decide ((nodeS s).t = .asn) && (S.isSt ki (nodeS s).s && (decide ((node (nodeS s).a).t = .bin) && (opIs .add (node (nodeS s).a).op && (isE S (.var ki) (node (nodeS s).a).a && (decide ((node (node (nodeS s).a).b).t = .list) && chkIsis S ei cs (node (node (nodeS s).a).b).l)))))
theorem chkK2_inv {S : Sc} {ei ki : Nat} {cs : List String} {s : PySem.Stmt} (h : chkK2 S ei ki cs s = true) : ∃ y py l o xs lp bp p, s = .Assign [.Name y py] (.BinOp l o (.List xs lp) bp) p ∧ S.isSt ki y = true ∧ opIs .add o = true ∧ isE S (.var ki) l = true ∧ chkIsis S ei cs xs = true := by
  obtain ⟨h1, h2⟩ := and2 h
  obtain ⟨h2, h3⟩ := and2 h2
  obtain ⟨h3, h4⟩ := and2 h3
  obtain ⟨h4, h5⟩ := and2 h4
  obtain ⟨h5, h6⟩ := and2 h5
  obtain ⟨h6, h7⟩ := and2 h6
  have e : s = .Assign [.Name (nodeS s).s (nodeS s).p2] (nodeS s).a (nodeS s).p := V4 h1
  have e' : (nodeS s).a = .BinOp (node (nodeS s).a).a (node (nodeS s).a).op (node (nodeS s).a).b (node (nodeS s).a).p := inv h3
  have e'' : (node (nodeS s).a).b = .List (node (node (nodeS s).a).b).l (node (node (nodeS s).a).b).p := inv h6
  exact ⟨_, _, _, _, _, _, _, _, e.trans (congrArg (fun z => PySem.Stmt.Assign [.Name (nodeS s).s (nodeS s).p2] z (nodeS s).p) (e'.trans (congrArg (fun z => PySem.Expr.BinOp (node (nodeS s).a).a (node (nodeS s).a).op z (node (nodeS s).a).p) e''))), h2, h4, h5, h7⟩
noncomputable def chkK3 (S : Sc) (ei ki : Nat) (c1 c2 : String) (s : PySem.Stmt) : Bool := decide ((nodeS s).t = .ret) && (decide ((node (nodeS s).a).t = .and) && three (node (nodeS s).a).l (chkIsi S ei c1) (chkIsi S ei c2) (isE S (.cmp (.cbool true) [.notin] [.var ki])))
theorem chkK3_inv {S : Sc} {ei ki : Nat} {c1 c2 : String} {s : PySem.Stmt} (h : chkK3 S ei ki c1 c2 s = true) : ∃ x y z bp p, s = .Return (some (.BoolOp .And [x, y, z] bp)) p ∧ chkIsi S ei c1 x = true ∧ chkIsi S ei c2 y = true ∧ isE S (.cmp (.cbool true) [.notin] [.var ki]) z = true := by
  obtain ⟨h1, h2⟩ := and2 h
  obtain ⟨h2, h3⟩ := and2 h2
  obtain ⟨x, y, z, e3, hx, hy, hz⟩ := three_inv h3
  have e : s = .Return (some (nodeS s).a) (nodeS s).p := V4 h1
  have e' : (nodeS s).a = .BoolOp .And (node (nodeS s).a).l (node (nodeS s).a).p := inv h2
  rw [e3] at e'
  exact ⟨x, y, z, _, _, e.trans (congrArg (fun z => PySem.Stmt.Return (some z) (nodeS s).p) e'), hx, hy, hz⟩
section
variable {prog : Program} {w : World} {G : String → Option MV} {Γ : String → Option MFun} {h₀ : Heap} {mg mb : Str → Option Value}
abbrev fls (cs : List String) : List MV := cs.map fun _ => .bool false
theorem rep_fls {h : Heap} : ∀ cs : List String, RepVs h (fls cs) (cs.map fun _ => Value.bool false)
  | [] => trivial
  | _ :: cs => by simp only [fls, List.map_cons, RepVs]; exact ⟨by simp [RepV], rep_fls cs⟩
theorem Aa {K D : Addr} (pg : PG prog w G Γ h₀ mg mb) (cC : ClsAt h₀ K [D]) (cD : ClsAt h₀ D []) {S : Sc} {env : Env} {vars : MVars} {fz : List Addr} {μ : MH} {s : Shared} {A : Around} {E : Value → Shared → Prop} {Q : Value → Shared → Prop} {i : Nat} {e : Addr} {oe : Obj} {cs : List String} {xs : List PySem.Expr} {lp : Pos}
    (C : Cur prog w h₀ S env vars fz μ s) (hv : vars i = some (.ref e)) (he : s.heap.get? e = some oe) (hc : oe.cls = .ref K) (hs : ∀ c ∈ cs, Says h₀ mg mb K D c false) (hx : chkIsis S i cs xs = true) (hl : cs.length ≤ 100)
    (hq : ∀ v s', PostV prog w fz μ s (fun v μ' => ∃ c, v = .ref c ∧ μ c = none ∧ μ' = upd μ c (.list (fls cs))) v s' → Q v s') : wpAny (model prog w) A (eval (.List xs lp) env) Q E s := by
  refine wpAny_List_spliced (Ab pg cC cD hv hc cs xs s _ C he hs hx fun tk => ⟨by rw [List.length_map]; exact Xq (Nat.le_trans hl (by decide)), hq _ _ ?_⟩)
  have p : PostV prog w fz μ { s with toks := tk } (fun v μ' => ∃ c, v = .ref c ∧ μ c = none ∧ μ' = upd μ c (.list (fls cs))) (.ref s.heap.objs.size) { s with heap := s.heap.push { cls := .type "list", data := .seq (cs.map fun _ => Value.bool false).toArray }, toks := tk } :=
    Zs (tk := tk) (s := { s with toks := tk }) (fun c hc _ => ⟨c, rfl, hc, rfl⟩) C.heap C.fzin (Yx (rep_fls cs))
  obtain ⟨mv, μ', q, rv, r, g⟩ := p
  exact ⟨mv, μ', q, rv, r, ⟨g.keep, g.os, g.gens⟩⟩
theorem k1_exec {K D : Addr} (pg : PG prog w G Γ h₀ mg mb) (cC : ClsAt h₀ K [D]) (cD : ClsAt h₀ D []) {S : Sc} {env : Env} {vars : MVars} {fz : List Addr} {μ : MH} {s : Shared} {A : Around} {E : Value → Shared → Prop} {Q : Flow → Shared → Prop} {ei ki : Nat} {e : Addr} {oe : Obj} {cs : List String} {x : PySem.Stmt}
    (C : Cur prog w h₀ S env vars fz μ s) (hv : vars ei = some (.ref e)) (he : s.heap.get? e = some oe) (hc : oe.cls = .ref K) (hs : ∀ c ∈ cs, Says h₀ mg mb K D c false) (hx : chkK1 S ei ki cs x = true) (hl : cs.length ≤ 100)
    (hq : ∀ c s', μ c = none → Cur prog w h₀ S env (setv vars ki (.ref c)) fz (upd μ c (.list (fls cs))) s' → GrowS env fz μ s (upd μ c (.list (fls cs))) s' → Q .next s') : wpAny (model prog w) A (exec x env) Q E s := by
  obtain ⟨y, py, xs, lp, p, rfl, hy, hxs⟩ := chkK1_inv hx
  refine wpAny_Assign_Name (Aa pg cC cD C hv he hc hs hxs hl fun v s₁ h₁ => ?_) rfl
  obtain ⟨mv, μ₁, ⟨c, rfl, hcn, rfl⟩, rv, r₁, g₁⟩ := h₁
  exact Zr (C.grow g₁ r₁) hy rv fun s₂ C₂ g₂ _ _ => hq c s₂ hcn C₂ (g₁.toS.trans g₂)
theorem k2_exec {K D : Addr} (pg : PG prog w G Γ h₀ mg mb) (cC : ClsAt h₀ K [D]) (cD : ClsAt h₀ D []) {S : Sc} {env : Env} {vars : MVars} {fz : List Addr} {μ : MH} {s : Shared} {A : Around} {E : Value → Shared → Prop} {Q : Flow → Shared → Prop} {ei ki : Nat} {e c₁ : Addr} {oe : Obj} {cs cs₁ : List String} {x : PySem.Stmt}
    (C : Cur prog w h₀ S env vars fz μ s) (hv : vars ei = some (.ref e)) (hk : vars ki = some (.ref c₁)) (hm : μ c₁ = some (.list (fls cs₁))) (he : s.heap.get? e = some oe) (hc : oe.cls = .ref K) (hs : ∀ c ∈ cs, Says h₀ mg mb K D c false) (hx : chkK2 S ei ki cs x = true) (hl : cs.length ≤ 100) (hl₁ : cs₁.length ≤ 100)
    (hq : ∀ c μ' s', μ' c = some (.list (fls (cs₁ ++ cs))) → Cur prog w h₀ S env (setv vars ki (.ref c)) fz μ' s' → GrowS env fz μ s μ' s' → Q .next s') : wpAny (model prog w) A (exec x env) Q E s := by
  obtain ⟨y, py, l, o, xs, lp, bp, p, rfl, hy, ho, hlv, hxs⟩ := chkK2_inv hx
  obtain ⟨ln, lnp, rfl, hln⟩ := Jx hlv
  obtain rfl : o = .Add := by cases o <;> first | rfl | (cases ho; done)
  refine wpAny_Assign_Name (wpAny_BinOp (wpAny_Name (Zx C hln hk fun u ru => ?_) (Yj hln))) rfl
  obtain rfl : u = .ref c₁ := ru
  refine Aa pg cC cD C hv he hc hs hxs hl fun v s₁ h₁ => ?_
  obtain ⟨mv, μ₁, ⟨c, rfl, hcn, rfl⟩, rv, r₁, g₁⟩ := h₁
  obtain rfl : v = .ref c := rv
  have hne : c₁ ≠ c := fun q => by rw [q, hcn] at hm; cases hm
  have m1 : lst (upd μ c (.list (fls cs))) c₁ = some (fls cs₁) := by unfold lst upd; rw [if_neg hne, hm]
  have m2 : lst (upd μ c (.list (fls cs))) c = some (fls cs) := by unfold lst upd; rw [if_pos rfl]
  obtain ⟨vs, ⟨n1, h1⟩, hv1, _⟩ := Zp r₁ m1
  obtain ⟨ws, ⟨n2, h2⟩, hw1, _⟩ := Zp r₁ m2
  have C₁ := C.grow g₁ r₁
  have e1 := hv1.length
  have e2 := hw1.length
  simp only [fls, List.length_map] at e1 e2
  refine P.add_list h1 h2 ?_ (by have : 200 ≤ sizeLine := by decide
                                 simp only [List.size_toArray]; lia)
  rw [show vs.toArray ++ ws.toArray = (vs ++ ws).toArray by simp]
  have p : PostV prog w fz (upd μ c (.list (fls cs))) s₁ (fun v μ' => ∃ c', v = .ref c' ∧ μ' c' = some (.list (fls (cs₁ ++ cs)))) (.ref s₁.heap.objs.size) { s₁ with heap := s₁.heap.push { cls := .type "list", data := .seq (vs ++ ws).toArray } } :=
    Zs (tk := s₁.toks) (fun c' _ _ => ⟨c', rfl, by unfold upd fls; rw [if_pos rfl, List.map_append]⟩) r₁ C₁.fzin (Yx (hv1.append hw1))
  obtain ⟨mv, μ₂, ⟨c', rfl, hm'⟩, rv, r₂, g₂⟩ := p
  exact Zr (C₁.grow g₂ r₂) hy rv fun s₃ C₃ g₃ _ _ => hq c' μ₂ s₃ hm' C₃ ((g₁.trans g₂).toS.trans g₃)
end
end Mine
end
section
set_option maxRecDepth 100000
namespace Mine
open PySem PySem.Calls PyProof.Rows PySem.W
section
variable {prog : Program} {w : World} {G : String → Option MV} {Γ : String → Option MFun} {h₀ : Heap} {mg mb : Str → Option Value}
theorem deep_fls {μ : MH} {n : Nat} : ∀ cs : List String, (fls cs).mapM (deep μ n) = some (cs.map fun _ => PyData.bool false)
  | [] => rfl
  | _ :: cs => by simp only [fls, List.map_cons, List.mapM_cons]; rw [show List.mapM (deep μ n) (List.map (fun _ => MV.bool false) cs) = _ from deep_fls cs]; cases n <;> rfl
theorem notin_fls {s : Shared} {μ : MH} {A : Around} {E : Value → Shared → Prop} {Q : Value → Shared → Prop} {c : Addr} {cs : List String} (r : RepH prog w μ s.heap) (hm : μ c = some (.list (fls cs))) (hu : A.units + 10 < cLine) (hq : Q (.bool true) s) : wpAny (model prog w) A (compareOp .NotIn (.bool true) (.ref c)) Q E s := by
  have e1 : deep μ 9 (.ref c) = some (.list (cs.map fun _ => PyData.bool false)) := by
    have : lst μ c = some (fls cs) := by unfold lst; rw [hm]
    simp only [deep, this, deep_fls]; rfl
  have e2 : deep μ 9 (.bool true) = some (.bool true) := rfl
  obtain ⟨as, a1, a2, a3⟩ := Y6 r 9 _ (.ref c) _ e1 (show RepV s.heap (.ref c) (.ref c) by simp [RepV])
  obtain ⟨bs, b1, b2, b3⟩ := Y6 r 9 _ (.bool true) _ e2 (show RepV s.heap (.bool true) (.bool true) by simp [RepV])
  have a2' : PyData.canLayAll0 (cs.map fun _ => PyData.bool false) = true := by simpa [PyData.canLay0] using a2
  refine SeqAt.notIn_list_reads a1 b1 a2' b2 (Nat.lt_of_le_of_lt (Nat.add_le_add_left (Nat.le_trans (Nat.min_le_right _ _) b3) _) (by assumption)) ?_
  have : ((cs.map fun _ => PyData.bool false).any fun y => PyData.eqv y (.bool true)) = false := by
    rw [List.any_eq_false]
    intro y hy
    obtain ⟨_, _, rfl⟩ := List.mem_map.mp hy
    decide
  rw [this]; exact hq
theorem k3_exec {K D : Addr} (pg : PG prog w G Γ h₀ mg mb) (cC : ClsAt h₀ K [D]) (cD : ClsAt h₀ D []) {S : Sc} {env : Env} {vars : MVars} {fz : List Addr} {μ : MH} {s : Shared} {A : Around} {E : Value → Shared → Prop} {Q : Flow → Shared → Prop} {ei ki : Nat} {e c : Addr} {oe : Obj} {cs : List String} {c1 c2 : String} {x : PySem.Stmt}
    (C : Cur prog w h₀ S env vars fz μ s) (hv : vars ei = some (.ref e)) (hk : vars ki = some (.ref c)) (hm : μ c = some (.list (fls cs))) (he : s.heap.get? e = some oe) (hc : oe.cls = .ref K) (hs1 : Says h₀ mg mb K D c1 true) (hs2 : Says h₀ mg mb K D c2 true) (hx : chkK3 S ei ki c1 c2 x = true) (hu : A.units + 10 < cLine)
    (hq : ∀ s', s'.heap = s.heap → s'.os = s.os → s'.gens = s.gens → Q (.ret (.bool true)) s') : wpAny (model prog w) A (exec x env) Q E s := by
  obtain ⟨x, y, z, bp, p, rfl, hx, hy, hz⟩ := chkK3_inv hx
  refine wpAny_Return_some ?_
  show wpAny _ A (eval x env >>= _) _ _ s
  refine wpAny_bind (Og pg cC cD C hv he hc hs1 hx fun tk => ?_)
  refine wpAny_bind (wpAny_standAt (wpAny_bind (wpAny_holding (wpAny_mono (Jk (v := .bool true) (x := .bool true) (b := true) (prog := prog) (w := w) (μ := μ) (s := { s with toks := tk }) (by simp [RepV]) C.heap rfl) (fun b' s₂ h₂ => ?_) fun _ _ e => e))))
  obtain ⟨rfl, st⟩ := h₂
  have C₂ : Cur prog w h₀ S env vars fz μ s₂ := C.toks st.1
  have he₂ : s₂.heap.get? e = some oe := by rw [st.1]; exact he
  show wpAny _ A (eval y env >>= _) _ _ s₂
  refine wpAny_bind (Og pg cC cD C₂ hv he₂ hc hs2 hy fun tk' => ?_)
  refine wpAny_bind (wpAny_standAt (wpAny_bind (wpAny_holding (wpAny_mono (Jk (v := .bool true) (x := .bool true) (b := true) (prog := prog) (w := w) (μ := μ) (s := { s₂ with toks := tk' }) (by simp [RepV]) C₂.heap rfl) (fun b' s₃ h₃ => ?_) fun _ _ e => e))))
  obtain ⟨rfl, st'⟩ := h₃
  have C₃ : Cur prog w h₀ S env vars fz μ s₃ := C₂.toks st'.1
  show wpAny _ A (eval z env) _ _ s₃
  obtain ⟨l, os, cs', p', rfl, h⟩ := Bc hz
  simp only [Bool.and_eq_true] at h
  show wpAny _ A (eval l env >>= fun v => compareChain p' v os (markedEach os cs' (evalEach cs' env))) _ _ s₃
  rw [markedEach_of_false _ _ _ (Yz os h.2)]
  obtain ⟨k, lp, rfl⟩ := Ac h.1.1
  refine wpAny_bind (wpAny_pure ?_)
  obtain ⟨ho, hcs⟩ := And.intro h.1.2 h.2
  cases os with
  | nil => simp [copsIs] at ho
  | cons o os =>
    cases os with
    | cons _ _ => simp [copsIs] at ho
    | nil =>
      cases cs' with
      | nil => simp [isEs] at hcs
      | cons u us =>
        cases us with
        | cons _ _ => simp [isEs] at hcs
        | nil =>
          simp only [copsIs, Bool.and_true] at ho
          obtain rfl : o = .NotIn := by cases o <;> first | rfl | (cases ho; done)
          obtain ⟨un, up, rfl, hun⟩ := Jx (Xw hcs).1
          refine chain_last (wpAny_Name (Zx C₃ hun hk fun uv ru => ?_) (Yj hun))
          obtain rfl : uv = .ref c := ru
          exact notin_fls C₃.heap hm hu (hq s₃ (st'.1.trans st.1) (st'.2.1.trans st.2.1) (st'.2.2.trans st.2.2))
end
end Mine
end
section
set_option maxRecDepth 100000
namespace Mine
open PySem PySem.Calls PyProof.Rows PySem.W
section
variable {M : Model} {A : Around} {E : Value → Shared → Prop} {h : Heap} {g : Array GenState} {d : Drawn} {t : Nat} {os : OsState} {C D e : Addr} {oe : Obj}
theorem match_own {Q : Bool → Shared → Prop} (K : ClsAt h C [D]) (K' : ClsAt h D []) (he : h.get? e = some oe) (hcls : oe.cls = .ref C) (hq : Q true ⟨h, g, d, t, os⟩) : wpAny M A (excMatches (.ref e) (.ref D)) Q E ⟨h, g, d, t, os⟩ := by
  obtain ⟨N, nm, q, bs, hdct, sn, sub, ab, col, dd, k0, k1, k2, k3, k5, mN, hC, h2, h3⟩ := K
  obtain ⟨N', nm', q', bs', hdct', sn', sub', ab', col', dd', k0', k1', k2', k3', k5', mN', hD, h2', h3'⟩ := K'
  have hcB : (Value.ref D :: (([] : List Addr).map .ref ++ bmV)).contains (.type "BaseException") = true := by
    rw [List.contains_cons]
    have : (([] : List Addr).map Value.ref ++ bmV).contains (.type "BaseException") = true := by decide +kernel
    rw [this, Bool.or_true]
  have hcC : (Value.ref C :: ([D].map .ref ++ bmV)).contains (.ref D) = true := by simp
  have f := tc_notTuple
  unfold excMatches
  repeat (first | (with_reducible refine wpAny_loadPart_at he ?_; rw [hcls]) | with_reducible refine wpAny_loadPart_at hD ?_ | (with_reducible refine wpAny_isSubtype_exc hD ?_; rw [hcB]) | (with_reducible refine wpAny_isSubtype_exc hC ?_; rw [hcC]) | wp_step)
  exact hq
end
noncomputable def oneH (l : List ExceptHandler) (f : PySem.Expr → Str → List PySem.Stmt → Bool) : Bool := match l with
  | [.ExceptHandler (some t) (some n) suite _] => f t n suite
  | _ => false
theorem oneH_inv {l : List ExceptHandler} {f : PySem.Expr → Str → List PySem.Stmt → Bool} (h : oneH l f = true) : ∃ t n suite pos, l = [.ExceptHandler (some t) (some n) suite pos] ∧ f t n suite = true := by
  cases l with
  | nil => cases h
  | cons x l =>
    cases l with
    | cons _ _ => obtain ⟨t, n, suite, pos⟩ := x; cases t <;> cases n <;> cases h
    | nil =>
      obtain ⟨t, n, suite, pos⟩ := x
      cases t with
      | none => cases h
      | some t => cases n with
        | none => cases h
        | some n => exact ⟨t, n, suite, pos, rfl, h⟩
noncomputable def threeS (l : List PySem.Stmt) (f g k : PySem.Stmt → Bool) : Bool := match l with
  | [y, z, u] => f y && (g z && k u)
  | _ => false
theorem Ny {l : List PySem.Stmt} {f g k : PySem.Stmt → Bool} (h : threeS l f g k = true) : ∃ y z u, l = [y, z, u] ∧ f y = true ∧ g z = true ∧ k u = true := by
  cases l with
  | nil => cases h
  | cons y l => cases l with
    | nil => cases h
    | cons z l => cases l with
      | nil => cases h
      | cons u l => cases l with
        | nil => exact ⟨y, z, u, rfl, (and2 h).1, and2 (and2 h).2⟩
        | cons _ _ => cases h
noncomputable def chkCatch (need bk bad : String) (o1 o2 : List String) (ei ki : Nat) (tab : List (Nat × Str)) (names : List (Str × NameKind)) (x : PySem.Stmt) : Bool :=
  decide ((nodeS x).t = .tri) && (isSs ⟨tab, names, [need]⟩ [.expr (.call need [.var 0])] (nodeS x).x && oneH (nodeS x).hs fun t n suite =>
    isGlobN ⟨tab, names, [need]⟩ bk t && ((⟨tab, names, [need]⟩ : Sc).isSt ei n && (decide (names.lookup n = some .local) && threeS suite (chkK1 ⟨tab, names, [need]⟩ ei ki o1) (chkK2 ⟨tab, names, [need]⟩ ei ki o2) (chkK3 ⟨tab, names, [need]⟩ ei ki bad "ValueError"))))
section
variable {prog : Program} {w : World} {G : String → Option MV} {Γ : String → Option MFun} {h₀ : Heap} {mg mb : Str → Option Value}
theorem Cur.withF {S : Sc} {env : Env} {vars : MVars} {fz : List Addr} {μ : MH} {s : Shared} (C : Cur prog w h₀ S env vars fz μ s) {fs : List String} (h : ∀ f ∈ fs, ∃ fa, FnAt h₀ f fa) : Cur prog w h₀ ⟨S.tab, S.names, fs⟩ env vars fz μ s :=
  ⟨C.base, C.heap, C.fzin, ⟨C.fr.names, C.fr.inj, C.fr.nk, C.fr.nv, C.fr.kind, C.fr.glob, C.fr.bui, C.fr.ns, C.fr.cells, C.fr.apart, C.fr.fixl, C.fr.fixc⟩, C.newl, C.newc, h⟩
theorem Cur.after {S : Sc} {env : Env} {vars : MVars} {fz : List Addr} {μ : MH} {s s' : Shared} (C : Cur prog w h₀ S env vars fz μ s) (k : ∀ b o, h₀.get? b = some o → s'.heap.get? b = some o) (u : Upto μ s.heap s'.heap) : Cur prog w h₀ S env (fun _ => none) [] (fun _ => none) s' where
  base := fun b o e => ⟨k b o e, .inl rfl⟩
  heap := fun a o e => by cases e
  fzin := fun a h => by cases h
  fr := {
    names := C.fr.names, inj := C.fr.inj, nk := C.fr.nk, nv := C.fr.nv, kind := C.fr.kind, glob := C.fr.glob, bui := C.fr.bui, cells := C.fr.cells, apart := C.fr.apart, fixl := rfl
    ns := by
      obtain ⟨m, ⟨o, es, ep, ho, hd, hr⟩, _⟩ := C.fr.ns
      obtain ⟨sl, hs⟩ := u _ _ C.fr.fixl ho fun vs q => by rw [hd] at q; cases q
      exact ⟨m, ⟨_, es, ep, hs, hd, hr⟩, fun i x mv _ _ h => by cases h⟩
    fixc := fun x c hm => by
      obtain ⟨h1, h2, v, o, ho, hd⟩ := C.fr.fixc x c hm
      obtain ⟨sl, hs⟩ := u _ _ h1 ho fun vs q => by rw [hd] at q; cases q
      exact ⟨rfl, h2, v, _, hs, hd⟩ }
  newl := C.newl
  newc := C.newc
  known := C.known
theorem Cur.apart_exc {S : Sc} {env : Env} {vars : MVars} {fz : List Addr} {μ : MH} {s : Shared} (C : Cur prog w h₀ S env vars fz μ s) {e : Addr} {oe : Obj} {ws : Array Value} (he : s.heap.get? e = some oe) (hd : oe.data = .fields ws) : e ≠ env.locals ∧ ∀ x c, (x, c) ∈ env.cells → e ≠ c := by
  constructor
  · rintro rfl
    obtain ⟨m, ⟨o, es, ep, ho, hd', _⟩, _⟩ := C.fr.ns
    rw [he] at ho; cases ho; rw [hd] at hd'; cases hd'
  · rintro x c hm rfl
    obtain ⟨_, _, v, o, ho, hd'⟩ := C.fr.fixc x e hm
    rw [he] at ho; cases ho; rw [hd] at hd'; cases hd'
end
end Mine
end
section
set_option maxRecDepth 100000
namespace Mine
open PySem PySem.Calls PyProof.Rows PySem.W
theorem Nz {vars : MVars} {i : Nat} {v : MV} : setv vars i v i = some v := by simp [setv]
theorem sv_ne' {vars : MVars} {i j : Nat} {v : MV} (h : j ≠ i) : setv vars i v j = vars j := by simp [setv, h]
theorem upd_self' {μ : MH} {a : Addr} {o : MO} : upd μ a o a = some o := by simp [upd]
section
variable {prog : Program} {w : World} {G : String → Option MV} {Γ : String → Option MFun} {h₀ : Heap} {mg mb : Str → Option Value}
theorem Ar {bk bad : String} {others o1 o2 : List String} {K D : Addr} (pg : PG prog w G Γ h₀ mg mb) (X : Xcs h₀ mg mb bk bad others K D) {S : Sc} {env : Env} {s : Shared} {A : Around} {E : Value → Shared → Prop} {Q : Flow → Shared → Prop} {ei ki : Nat} {e : Addr} {oe : Obj} {ws : Array Value} {y z u : PySem.Stmt}
    (C : Cur prog w h₀ S env (setv (fun _ => none) ei (.ref e)) [] (fun _ => none) s) (hek : ei ≠ ki) (he : s.heap.get? e = some oe) (hc : oe.cls = .ref K) (hd : oe.data = .fields ws) (h1 : ∀ c ∈ o1, c ∈ others) (h2 : ∀ c ∈ o2, c ∈ others) (hl1 : o1.length ≤ 100) (hl2 : o2.length ≤ 100) (hy : chkK1 S ei ki o1 y = true) (hz : chkK2 S ei ki o2 z = true) (hu : chkK3 S ei ki bad "ValueError" u = true) (hA : A.units + 10 < cLine)
    (hq : ∀ s' μ' vars', Cur prog w h₀ S env vars' [] μ' s' → s'.os = s.os → s'.gens = s.gens → Q (.ret (.bool true)) s') : wpAny (model prog w) A (execs [y, z, u] env) Q E s := by
  have ap := C.apart_exc he hd
  refine wpAny_execs_cons (k1_exec pg X.cC X.cD C Nz he hc (fun c h => says_oth X (h1 c h)) hy hl1 fun c s₁ hcn C₁ g₁ => ?_)
  obtain ⟨he₁, hm₁⟩ := g₁.keep e oe (.inl rfl) ap.1 ap.2 he
  refine wpAny_execs_cons (k2_exec pg X.cC X.cD C₁ (vars := setv (setv (fun _ => none) ei (.ref e)) ki (.ref c)) ((sv_ne' hek).trans Nz) Nz upd_self' he₁ hc (fun c h => says_oth X (h2 c h)) hz hl2 hl1 fun c' μ₂ s₂ hm₂ C₂ g₂ => ?_)
  obtain ⟨he₂, _⟩ := g₂.keep e oe (.inl hm₁) ap.1 ap.2 he₁
  refine wpAny_execs_cons (k3_exec pg X.cC X.cD C₂ ((sv_ne' hek).trans ((sv_ne' hek).trans Nz)) Nz hm₂ he₂ hc (says_bad X) (says_ve X) hu hA fun s₃ e1 e2 e3 => ?_)
  exact hq s₃ _ _ (C₂.toks e1) (e2.trans (g₂.os.trans g₁.os)) (e3.trans (g₂.gens.trans g₁.gens))
end
end Mine
end
section
set_option maxRecDepth 100000
namespace Mine
open PySem PySem.Calls PyProof.Rows PySem.W
section
variable {prog : Program} {w : World} {G : String → Option MV} {Γ : String → Option MFun} {h₀ : Heap} {mg mb : Str → Option Value}
noncomputable def refuseBody (need bk bad : String) (o1 o2 : List String) (ei ki : Nat) : List MS := [.opq (chkCatch need bk bad o1 o2 ei ki), .ret (.cbool false)]
theorem Kl {bk bad : String} {others o1 o2 : List String} {K D : Addr} (pg : PG prog w G Γ h₀ mg mb) (X : Xcs h₀ mg mb bk bad others K D) {S : Sc} {env : Env} {vars : MVars} {fz : List Addr} {μ : MH} {s s' : Shared} {A : Around} {E : Value → Shared → Prop} {Q : Flow → Shared → Prop} {ei ki : Nat} {e : Addr} {a0 : Value} {outer : List Env} {t : PySem.Expr} {n : Str} {pos : Pos} {y z u : PySem.Stmt}
    (C : Cur prog w h₀ S env vars fz μ s) (hfr : A.frames = some (env :: outer)) (hf : env.frame = some env.locals) (hfl : Heap.FlyingW h₀ (env :: outer) e (.ref K) a0 s'.heap) (hup : Upto μ s.heap s'.heap) (hek : ei ≠ ki)
    (h1 : ∀ c ∈ o1, c ∈ others) (h2 : ∀ c ∈ o2, c ∈ others) (hl1 : o1.length ≤ 100) (hl2 : o2.length ≤ 100) (ht : isGlobN S bk t = true) (hn : S.isSt ei n = true) (hloc : S.names.lookup n = some .local) (hy : chkK1 S ei ki o1 y = true) (hz : chkK2 S ei ki o2 z = true) (hu : chkK3 S ei ki bad "ValueError" u = true) (hA : A.units + 10 < cLine)
    (hq : ∀ s'', (∀ b o, h₀.get? b = some o → s''.heap.get? b = some o) → s''.os = s'.os → s''.gens = s'.gens → Q (.ret (.bool true)) s'') :
    wpAny (model prog w) A (noteFrame (.ref e) env) (fun _ s₂ => wpAny (model prog w) A (setFlight (.ref e) none) (fun _ s₃ => wpAny (model prog w) A (handleBy (.ref e) env [.ExceptHandler (some t) (some n) [y, z, u] pos]) Q E s₃) E s₂) E s' := by
  refine wpAny_looks_onW hfr hf hfl fun h₄ hheld hsm₄ => ?_
  refine wpAny_landsW hheld fun h₅ hfl₅ hsm₅ => ?_
  have up₅ : Upto μ s.heap h₅ := fun b o hm e hd => by
    obtain ⟨sl, e1⟩ := hup b o hm e hd
    obtain ⟨sl', e2⟩ := (hsm₄.trans hsm₅) b _ e1 hd
    exact ⟨sl', e2⟩
  have C₅ : Cur prog w h₀ S env (fun _ => none) [] (fun _ => none) { s' with heap := h₅ } := C.after hfl₅.1 up₅
  obtain ⟨oe, ws, hoe, hoec, hoed, _⟩ := hfl₅.first
  obtain ⟨tn, tp, rfl, htg⟩ := Ng ht
  refine wpAny_handleBy_cons (codeAny_handlers_test (Kw pg C₅ htg X.gD ?_)) (by intro q; cases q)
  have kp₅ : ∀ b o, h₀.get? b = some o → h₅.get? b = some o := hfl₅.1
  refine match_own (X.cC.keeps kp₅) (X.cD.keeps kp₅) hoe hoec ?_
  refine codeAny_handlers_suite_as (lands_againW hfl₅ fun h₆ hfl₆ hsm₆ => ?_)
  have up₆ : Upto μ s.heap h₆ := fun b o hm e hd => by
    obtain ⟨sl, e1⟩ := up₅ b o hm e hd
    obtain ⟨sl', e2⟩ := hsm₆ b _ e1 hd
    exact ⟨sl', e2⟩
  have C₆ : Cur prog w h₀ S env (fun _ => none) [] (fun _ => none) { s' with heap := h₆ } := C.after hfl₆.1 up₆
  obtain ⟨oe, ws, hoe, hoec, hoed, _⟩ := hfl₆.first
  have ap := C₆.apart_exc hoe hoed
  refine Zr C₆ hn (mv := .ref e) (by simp [RepV]) fun s₇ C₇ g₇ _ k₇ => ?_
  have he₇ := k₇ hloc e oe ap.1 hoe
  refine Ar pg X C₇ hek he₇ hoec hoed h1 h2 hl1 hl2 hy hz hu hA fun s₈ μ₈ vars₈ C₈ ho₈ hg₈ => ?_
  obtain ⟨m, hns, _⟩ := C₈.fr.ns
  have hko : env.kindOf n = some .local := by unfold Env.kindOf; rw [C₈.fr.names]; exact hloc
  refine wpAny_nameGoes hko hns (by rw [C₈.fr.kind]; rfl) fun h₉ m₉ hn₉ hsb => ?_
  refine hq _ (fun b o e => ?_) (ho₈.trans g₇.os) (hg₈.trans g₇.gens)
  have e₈ := (C₈.base b o e).1
  exact SameBut.keep hsb b o (fun q => by rw [List.mem_singleton.mp q, C₈.newl] at e; cases e) e₈
theorem Pc {bk bad need t f : String} {others o1 o2 : List String} {K D : Addr} {ei ki : Nat} (pg : PG prog w G Γ h₀ mg mb) (X : Xcs h₀ mg mb bk bad others K D) {d : Nat} {v : MV} {val : Value} {fz : List Addr} {μ : MH} {s : Shared} {A : Around} {fa : Addr} {outer : List Env} {R : Result → Shared → Prop}
    (hΓ : Γ f = some ⟨1, refuseBody need bk bad o1 o2 ei ki⟩) (hΓn : Γ need = some ⟨1, needBody t bad⟩) (hA : OkA (d + 2) A) (B : Base h₀ fz μ s) (r : RepH prog w μ s.heap) (fi : FzIn fz μ) (rv : RepV s.heap v val) (hfn : FnAt h₀ f fa) (st : Stk A h₀ s.heap μ outer) (hek : ei ≠ ki)
    (h1 : ∀ c ∈ o1, c ∈ others) (h2 : ∀ c ∈ o2, c ∈ others) (hl1 : o1.length ≤ 100) (hl2 : o2.length ≤ 100)
    (hbad : ∀ Q : MQ, (∀ μ', Q (.bool false) μ') → calls G Γ d t [v] fz Q X0 μ)
    (hR : ∀ s', (∀ b o, h₀.get? b = some o → s'.heap.get? b = some o) → s'.os = s.os → s'.gens = s.gens → R (.ok (.ret (.bool true))) s') : codeAny (model prog w) A (.call (.ref fa) ⟨[val], []⟩) R s := by
  refine P0 (d := d + 1) pg hΓ rfl hA B r fi (vs := [v]) (by simp only [RepVs]; exact ⟨rv, trivial⟩) hfn fun S env body s₁ hb C hA' en => ?_
  cases body with
  | nil => exact (Bool.false_ne_true hb).elim
  | cons x xs =>
    have hx : chkCatch need bk bad o1 o2 ei ki S.tab S.names x = true := (Xy hb).1
    obtain ⟨c1, c2⟩ := and2 hx
    obtain ⟨c2, c3⟩ := and2 c2
    obtain ⟨tx, n, suite, pos, ehs, c3⟩ := oneH_inv c3
    obtain ⟨d3, c4⟩ := and2 c3
    obtain ⟨d4, c5⟩ := and2 c4
    obtain ⟨d5, c6⟩ := and2 c5
    obtain ⟨y, z, u, rfl, hy, hz, hu⟩ := Ny c6
    have ex : x = .Try (nodeS x).x (nodeS x).hs [] [] (nodeS x).p := V4 c1
    rw [ehs] at ex
    rw [ex]
    obtain ⟨fn, hfnN⟩ := pg.fnAt hΓn
    have C' : Cur prog w h₀ ⟨S.tab, S.names, [need]⟩ env (args0 [v]) fz μ s₁ := C.withF fun g hg => by
      obtain rfl := List.mem_singleton.mp hg
      exact ⟨fn, hfnN⟩
    refine wpAny_execs_cons (wpAny_Try_except ?_)
    generalize (nodeS x).x = b at c2
    cases b with
    | nil => exact (Bool.false_ne_true c2).elim
    | cons sx bs =>
      obtain ⟨ve, pe, rfl, hn0, hv⟩ := Vs (Xy c2).1
      obtain ⟨g, np, as, cp, rfl, hg, ha⟩ := V3 hv
      simp only [Bool.and_eq_true, decide_eq_true_eq] at ha
      obtain ⟨⟨_, ha⟩, _⟩ := ha
      refine wpAny_execs_cons (wpAny_Expr_any ?_ (by unfold interactive; rw [C.fr.kind]; rfl) (Ua hn0 _ _))
      obtain ⟨m, hm, hmf, o, fd, ho, hfd⟩ := id hfnN
      obtain ⟨rfl, hk, hd⟩ := Z8 hg
      refine wpAny_Call_ofName (Name_function_global C'.fr.kind (by unfold Env.kindOf; rw [C'.fr.names]; exact hk) (loadGlobal_global (mg := m) ?_ hmf ?_) hd)
      · rw [C'.fr.glob]; exact hm.keeps fun b o e => (C'.base b o e).1
      rw [Y4 cp ha]
      show wpAny _ _ (callWith cp (.ref fn) [] _ []) _ _ s₁
      refine callWith_function (o := o) (fd := fd) (Xz (Xv as) ?_)
      cases as with
      | nil => exact (Bool.false_ne_true ha).elim
      | cons w0 ws =>
        cases ws with
        | cons _ _ => exact (Bool.false_ne_true (Xw ha).2).elim
        | nil =>
          obtain ⟨wn, wp, rfl, hwv⟩ := Jx (Xw ha).1
          refine Calls.spliced_cons (wpAny_Name (Zx C' hwv (mv := v) rfl fun uv ru => ?_) (Yj hwv))
          refine Calls.spliced_nil ⟨⟨(C'.base _ _ ho).1, hfd⟩, ?_⟩
          have hfr := Around.frames_deeper (env := env) st.fr
          refine wpAny_call (need_native pg X hΓn hA' C.base C.heap C.fzin ru hfnN ⟨hfr, Jz C en.frame (Kz st.ff st.nt fun b o _ e => en.keep b o e), fun e' he' L hL => ?_⟩ hbad fun e a0 s₂ hfl hup ho₂ hg₂ => ?_)
          · rcases List.mem_cons.mp he' with rfl | he'
            · rw [en.frame] at hL; cases hL; exact C.fr.fixl
            · exact st.nt e' he' L hL
          · refine Kl pg X C' hfr en.frame hfl hup hek h1 h2 hl1 hl2 d3 d4 (of_decide_eq_true d5) hy hz hu (by have := hA'.units; lia) fun s₃ k₃ ho₃ hg₃ => ?_
            exact hR s₃ k₃ (ho₃.trans (ho₂.trans en.os)) (hg₃.trans (hg₂.trans en.gens))
end
end Mine
end
section
set_option maxRecDepth 100000
namespace Mine
open PySem PySem.Calls PyProof.Rows PySem.W
section
variable {prog : Program} {w : World} {G : String → Option MV} {Γ : String → Option MFun} {h₀ : Heap} {mg mb : Str → Option Value}
theorem Vm {S : Sc} {env : Env} {vars : MVars} {fz : List Addr} {μ : MH} {s : Shared} {A : Around} {E : Value → Shared → Prop} {Q : Value → Shared → Prop} {f : String} {i : Nat} {v : MV} {x : PySem.Expr} (C : Cur prog w h₀ S env vars fz μ s) (hx : isE S (.call f [.var i]) x = true) (hv : vars i = some v)
    (k : ∀ fa val, FnAt h₀ f fa → RepV s.heap v val → codeAny (model prog w) A (.call (.ref fa) ⟨[val], []⟩) (fun r s' => match r with | .ok (.ret v) => Q v s' | .ok _ => False | .error e => E e s') s) : wpAny (model prog w) A (eval x env) Q E s := by
  obtain ⟨g, np, as, cp, rfl, hg, ha⟩ := V3 hx
  simp only [Bool.and_eq_true, decide_eq_true_eq, List.contains_iff_mem] at ha
  obtain ⟨⟨hf, ha⟩, _⟩ := ha
  obtain ⟨fn, hfnN⟩ := C.known f hf
  obtain ⟨m, hm, hmf, o, fd, ho, hfd⟩ := id hfnN
  obtain ⟨rfl, hk, hd⟩ := Z8 hg
  refine wpAny_Call_ofName (Name_function_global C.fr.kind (by unfold Env.kindOf; rw [C.fr.names]; exact hk) (loadGlobal_global (mg := m) ?_ hmf ?_) hd)
  · rw [C.fr.glob]; exact hm.keeps fun b o e => (C.base b o e).1
  rw [Y4 cp ha]
  show wpAny _ _ (callWith cp (.ref fn) [] _ []) _ _ s
  refine callWith_function (o := o) (fd := fd) (Xz (Xv as) ?_)
  cases as with
  | nil => exact (Bool.false_ne_true ha).elim
  | cons w0 ws =>
    cases ws with
    | cons _ _ => exact (Bool.false_ne_true (Xw ha).2).elim
    | nil =>
      obtain ⟨wn, wp, rfl, hwv⟩ := Jx (Xw ha).1
      refine Calls.spliced_cons (wpAny_Name (Zx C hwv hv fun uv ru => ?_) (Yj hwv))
      exact Calls.spliced_nil ⟨⟨(C.base _ _ ho).1, hfd⟩, wpAny_call (k fn uv hfnN ru)⟩
noncomputable def runT (G : String → Option MV) (Φ : CallSpec) (fz : List Addr) (Fin : MVars → MH → Prop) : List MS → MVars → MH → Prop
  | [], vars, μ => Fin vars μ
  | st :: r, vars, μ => ex G Φ X0 st fz vars (fun fl vars' μ' => fl = .next ∧ runT G Φ fz Fin r vars' μ') μ
theorem Ke (pg : PG prog w G Γ h₀ mg mb) {Φ : CallSpec} {d : Nat} (hc : SC prog w h₀ Φ d) {fz : List Addr} {Fin : MVars → MH → Prop} {S : Sc} {env : Env} {A : Around} {E : Value → Shared → Prop} {Q : Flow → Shared → Prop} {rest : List MS} (hA : OkA d A) :
    ∀ (pre : List MS) (xs : List PySem.Stmt) (vars : MVars) (μ : MH) (s : Shared), isSs S (pre ++ rest) xs = true → Cur prog w h₀ S env vars fz μ s → runT G Φ fz Fin pre vars μ →
      (∀ xs' vars' μ' s', isSs S rest xs' = true → Cur prog w h₀ S env vars' fz μ' s' → s'.os = s.os → s'.gens = s.gens → Fin vars' μ' → wpAny (model prog w) A (execs xs' env) Q E s') → wpAny (model prog w) A (execs xs env) Q E s
  | [] => fun xs vars μ s h C hr k => k xs vars μ s h C rfl rfl hr
  | st :: pre => fun xs vars μ s h C hr k => by
    cases xs with
    | nil => exact (Bool.false_ne_true h).elim
    | cons x xs =>
      replace h := Xy h
      refine wpAny_execs_cons (wpAny_mono (soundS pg hc st S x env vars fz μ s _ A E h.1 hA C hr) (fun f s₁ h₁ => ?_) fun _ _ e => e)
      obtain ⟨fl, vars₁, μ₁, ⟨rfl, hr₁⟩, hf, C₁, g₁⟩ := h₁
      obtain rfl := hf
      exact Ke pg hc hA pre xs vars₁ μ₁ s₁ h.2 C₁ hr₁ fun xs' vars' μ' s' a b c e f => k xs' vars' μ' s' a b (c.trans g₁.os) (e.trans g₁.gens) f
theorem law_native {bk bad need t rf f : String} {others o1 o2 : List String} {K D : Addr} {ei ki vi : Nat} (pg : PG prog w G Γ h₀ mg mb) (X : Xcs h₀ mg mb bk bad others K D) {d : Nat} {pre post : List MS} {c : ME} {s : Shared} {a fa : Addr} {vs : List Value} {ns : List Int} {E : Value → Shared → Prop}
    (hs : s.heap = h₀) (hfa : mg (Str.ofString f) = some (.ref fa)) (hΓ : Γ f = some ⟨1, pre ++ (.ite c [.ret (.call rf [.var vi])] [] :: post)⟩) (hΓr : Γ rf = some ⟨1, refuseBody need bk bad o1 o2 ei ki⟩) (hΓn : Γ need = some ⟨1, needBody t bad⟩) (hek : ei ≠ ki)
    (h1 : ∀ c ∈ o1, c ∈ others) (h2 : ∀ c ∈ o2, c ∈ others) (hl1 : o1.length ≤ 100) (hl2 : o2.length ≤ 100) (hA : OkA (d + 3) callerA) (hp : s.heap.PlainList a vs.toArray) (hi : IntsAre vs ns)
    (hrun : runT G (calls G Γ (d + 2)) [a] (fun vars μ => ev G (calls G Γ (d + 2)) X0 c [a] vars (fun v μ' => ∃ b, truthy μ' v = some b ∧ if b then (∃ u, vars vi = some u ∧ ∀ Q : MQ, (∀ μ'', Q (.bool false) μ'') → calls G Γ d t [u] [a] Q X0 μ') else exs G (calls G Γ (d + 2)) X0 post [a] vars (fun fl _ _ => fl = .ret (.bool true)) μ') μ) pre (args0 [.ref a]) (upd (fun _ => none) a (.list (ns.map .int)))) :
    wpAny (model prog w) callerA (call (.ref fa) [.ref a]) (fun v s' => v = .bool true ∧ (∀ b o, s.heap.get? b = some o → s'.heap.get? b = some o) ∧ s'.os = s.os ∧ s'.gens = s.gens) E s := by
  subst hs
  have hrep : RepVs s.heap (ns.map .int) vs := by
    clear hrun hp
    induction hi with
    | nil => trivial
    | cons i t hi ih => simp only [List.map_cons, RepVs]; exact ⟨by simp only [RepV]; exact ⟨_, rfl⟩, ih⟩
  have hfn : FnAt s.heap f fa := by
    obtain ⟨fa', m, hm, hmf, r⟩ := pg.fnAt hΓ
    have : m = mg := hm.eq_nsMap.trans pg.g.eq_nsMap.symm
    subst this
    rw [hfa] at hmf; cases hmf
    exact ⟨m, hm, hfa, r⟩
  refine wpAny_call (P0 (d := d + 2) pg hΓ rfl hA (fz := [a]) (μ := upd (fun _ => none) a (.list (ns.map .int))) (vs := [.ref a]) (fun b o e => ⟨e, ?_⟩) ?_ ?_ (by simp [RepVs, RepV]) hfn fun S env body s₁ hb C hA' en => ?_)
  · unfold upd
    split
    · rename_i q; subst q; exact .inr (by simp)
    · exact .inl rfl
  · intro b o e
    unfold upd at e
    split at e
    · rename_i q; subst q; cases e; exact ⟨vs, hp, hrep⟩
    · cases e
  · intro b hb
    obtain rfl := List.mem_singleton.mp hb
    simp [upd]
  refine Ke pg (Ym pg (d + 2)) hA' pre body _ _ s₁ hb C hrun fun xs' vars' μ' s' hxs C' ho' hg' hfin => ?_
  cases xs' with
  | nil => exact (Bool.false_ne_true hxs).elim
  | cons x xs =>
    replace hxs := Xy hxs
    obtain ⟨tt, y, z, p, rfl, h⟩ := Ki hxs.1
    simp only [Bool.and_eq_true] at h
    refine wpAny_execs_cons (wpAny_If (wpAny_mono ((Y5 pg (Ym pg (d + 2)) c).2 S _ env _ [a] μ' s' (fun b μ' => if b then (∃ u, vars' vi = some u ∧ ∀ Q : MQ, (∀ μ'', Q (.bool false) μ'') → calls G Γ d t [u] [a] Q X0 μ') else exs G (calls G Γ (d + 2)) X0 post [a] vars' (fun fl _ _ => fl = .ret (.bool true)) μ') _ _ h.1.1 hA' C' hfin) (fun b s₂ h₂ => ?_) fun _ _ e => e))
    obtain ⟨μ₂, hq₂, r₂, g₂⟩ := h₂
    have C₂ := C'.grow g₂ r₂
    have ho₂ : s₂.os = s.os := g₂.os.trans (ho'.trans en.os)
    have hg₂ : s₂.gens = s.gens := g₂.gens.trans (hg'.trans en.gens)
    cases b with
    | true =>
      obtain ⟨u, hu, hbad⟩ := hq₂
      have hy := h.1.2
      cases y with
      | nil => exact (Bool.false_ne_true hy).elim
      | cons x' ys =>
        obtain ⟨ve, pe, rfl, hve⟩ := Oh (Xy hy).1
        refine wpAny_execs_cons (wpAny_Return_some (Vm C₂ hve hu fun fr val hfr rv => ?_))
        refine Pc (d := d) pg X hΓr hΓn hA' C₂.base C₂.heap C₂.fzin rv hfr (outer := [env]) ⟨Around.frames_deeper (outer := []) rfl, Jz C₂ en.frame trivial, fun e' he' L hL => ?_⟩ hek h1 h2 hl1 hl2 hbad fun s₃ k₃ ho₃ hg₃ => ⟨rfl, k₃, ho₃.trans ho₂, hg₃.trans hg₂⟩
        obtain rfl := List.mem_singleton.mp he'
        rw [en.frame] at hL; cases hL; exact C₂.fr.fixl
    | false =>
      have hz := h.2
      cases z with
      | cons _ _ => exact (Bool.false_ne_true hz).elim
      | nil =>
        refine wpAny_execs_nil ?_
        refine wpAny_mono (J4 pg (Ym pg (d + 2)) post S xs env vars' [a] μ₂ s₂ _ _ _ hxs.2 hA' C₂ hq₂) (fun f s₃ h₃ => ?_) fun _ _ e => e
        obtain ⟨fl, vars₃, μ₃, rfl, hf, C₃, g₃⟩ := h₃
        obtain ⟨v, rfl, rv⟩ := hf
        obtain rfl : v = .bool true := by simpa [RepV] using rv
        exact ⟨rfl, fun b o e => (C₃.base b o e).1, g₃.os.trans ho₂, g₃.gens.trans hg₂⟩
end
end Mine
end
section
set_option maxRecDepth 100000
namespace Mine
open PySem PySem.Calls PyProof.Rows PySem.W
section
variable {M : Model} {A : Around} {E : Value → Shared → Prop} {s : Shared}
theorem note_made {base h : Heap} {env : Env} {outer : List Env} {L e : Addr} {cls : Value} {args : List Value} {Q : Unit → Shared → Prop}
    (hfr : A.frames = some (env :: outer)) (hf : env.frame = some L) (hkb : base.StaysIn h) (hl : h.FunFrames base (env :: outer)) (hx : Heap.MadeExcOf h s.heap e cls args)
    (hQ : ∀ h' t, Heap.HeldW base (env :: outer) e cls (.ref t) L h' → s.heap.UpToSlots h' → Q () { s with heap := h' }) : wpAny M A (noteFrame (.ref e) env) Q E s := by
  obtain ⟨t, he, htn, ht⟩ := hx.there
  have fresh : ∀ b, h.get? b = none → base.get? b = none := fun b hb => by
    cases hq : base.get? b with
    | none => rfl
    | some o' => have := hkb b o' hq; rw [hb] at this; cases this
  unfold noteFrame
  simp only [hf]
  refine wpAny_bind (wpAny_field (vs := #[.ref t, .none, .none, .none, .bool false, .none]) he rfl (x := .none) rfl ?_)
  rw [if_neg (by decide)]
  refine wpAny_entryW (vs := #[.ref t, .none, .none, .none, .bool false, .none]) (a0 := .ref t) hfr (hl.of_keeps fun b o hb _ => ⟨o, hx.keeps b o hb, rfl⟩) hf he (fun b o hb => hx.keeps b o (hkb b o hb)) (fresh e hx.new) rfl (by simp) rfl fun h' hN => ?_
  obtain ⟨k1, k2, k3, k4⟩ := hN
  exact hQ h' t ⟨k1, fresh e hx.new, k2, k3⟩ k4
theorem came_back {base : Heap} {env : Env} {l : List Env} {L e : Addr} {cls a0 : Value} (hf : env.frame = some L) (hh : Heap.HeldW base l e cls a0 L s.heap)
    (hQ : ∀ h', Heap.HeldW base l e cls a0 L h' → s.heap.UpToSlots h' → E (.ref e) { s with heap := h' }) : cameBackBy M A env E (.ref e) s := by
  obtain ⟨f1, f2, f3, ht⟩ := hh
  obtain ⟨oe, vs, T, oT, ts, he, hcls, hd, h1, hnT, hTe, hT, hdT, h3⟩ := ht
  unfold cameBackBy
  refine wpAny_bind (wpAny_field he hd h1 ?_)
  rw [if_neg (show ¬ ((Value.ref T == Value.none) = true) from Bool.false_ne_true)]
  have hsz3 : 3 < ts.size := (Array.getElem?_eq_some_iff.mp h3).1
  have other : ∀ b, b ≠ T → (s.heap.update T (Obj.mapFields (·.setIfInBounds 3 ((env.frame).elim Value.none fun f => rawInt f)))).get? b = s.heap.get? b :=
    fun b hb => Heap.get?_update_other _ _ (Ne.symm hb)
  have noRecord : ∀ b o, s.heap.get? b = some o → (∀ vs, o.data ≠ .fields vs) → b ≠ T := fun b o hb hnf q => by
    rw [q, hT] at hb; injection hb with hb; subst hb; exact hnf ts hdT
  unfold setFlight
  refine wpAny_bind (wpAny_field he hd h1 ?_)
  rw [if_pos (show (Value.ref T != Value.none) = true from by simp)]
  refine wpAny_setField hT hdT hsz3 (hQ _ ⟨fun b o hbo => (other b fun q => by rw [q, hnT] at hbo; cases hbo).trans (f1 b o hbo), f2, f3.of_keeps fun b o hb hnf => ⟨o, (other b (noRecord b o hb hnf)).trans hb, rfl⟩, ?_⟩ fun b o hb hnf => ⟨o.slots, (other b (noRecord b o hb hnf)).trans hb⟩)
  exact ⟨oe, vs, T, _, _, (other e (Ne.symm hTe)).trans he, hcls, hd, h1, hnT, hTe, Heap.get?_update_self _ hT (Obj.isFreed_of_fields (Obj.data_mapFields hdT _)), Obj.data_mapFields hdT _, by simp [hsz3, hf]⟩
end
end Mine
end
section
set_option maxRecDepth 100000
namespace Mine
open PySem PySem.Calls PyProof.Rows PySem.W
section
variable {prog : Program} {w : World} {G : String → Option MV} {Γ : String → Option MFun} {h₀ : Heap} {mg mb : Str → Option Value}
noncomputable def tstM (G : String → Option MV) (Φ : CallSpec) (c : ME) (fz : List Addr) (vars : MVars) (K : MH → Prop) (μ : MH) : Prop := ev G Φ X0 c fz vars (fun u μ₁ => ∃ b, truthy μ₁ u = some b ∧ if b then True else K μ₁) μ
noncomputable def needBody2 (c1 c2 c3 : ME) (bad : String) (ret : MS) : List MS := [.ite c1 [.opq (chkRaise bad)] [], .for (.one 1) .plain [.var 0] [.ite c2 [.opq (chkRaise bad)] [], .ite c3 [.opq (chkRaise bad)] []], ret]
noncomputable def stepM (G : String → Option MV) (Φ : CallSpec) (c2 c3 : ME) (fz held : List Addr) (vs : MVars) (F : MFlow → MVars → MH → Prop) (μ : MH) : Prop := tstM G Φ c2 (held ++ fz) vs (fun μ₁ => tstM G Φ c3 (held ++ fz) vs (fun μ₂ => F .next vs μ₂) μ₁) μ
theorem Ug {bk bad : String} {others : List String} {K D : Addr} (pg : PG prog w G Γ h₀ mg mb) (X : Xcs h₀ mg mb bk bad others K D) {d : Nat} {c : ME} {S : Sc} {env : Env} {vars : MVars} {fz : List Addr} {μ : MH} {s : Shared} {A : Around} {E : Value → Shared → Prop} {Q : Flow → Shared → Prop} {x : PySem.Stmt} {Kn : MH → Prop} (hA : OkA d A) (C : Cur prog w h₀ S env vars fz μ s) (hx : isS S (.ite c [.opq (chkRaise bad)] []) x = true) (hq : tstM G (calls G Γ d) c fz vars Kn μ)
    (hE : ∀ μ₁ s₁ e h' tk args, Grow fz μ s μ₁ s₁ → Cur prog w h₀ S env vars fz μ₁ s₁ → Heap.MadeExcOf s₁.heap h' e (.ref K) args → E (.ref e) { s₁ with heap := h', toks := tk })
    (hQ : ∀ μ₁ s₁, Grow fz μ s μ₁ s₁ → Cur prog w h₀ S env vars fz μ₁ s₁ → Kn μ₁ → Q .next s₁) : wpAny (model prog w) A (exec x env) Q E s := by
  obtain ⟨tt, y, z, p, rfl, h⟩ := Ki hx
  simp only [Bool.and_eq_true] at h
  refine wpAny_If (wpAny_mono ((Y5 pg (Ym pg d) c).2 S _ env _ fz μ s (fun b μ₁ => if b then True else Kn μ₁) _ _ h.1.1 hA C hq) (fun b s₂ h₂ => ?_) fun _ _ e => e)
  obtain ⟨μ₂, hq₂, r₂, g₂⟩ := h₂
  have C₂ := C.grow g₂ r₂
  cases b with
  | true =>
    have hy := h.1.2
    cases y with
    | nil => exact (Bool.false_ne_true hy).elim
    | cons x' ys => exact wpAny_execs_cons (Uu pg X C₂ hA.hand (Xy hy).1 fun e h' tk args hm => hE μ₂ s₂ e h' tk args g₂ C₂ hm)
  | false =>
    have hz := h.2
    cases z with
    | cons _ _ => exact (Bool.false_ne_true hz).elim
    | nil => exact wpAny_execs_nil (hQ μ₂ s₂ g₂ C₂ hq₂)
theorem B1 {bk bad f : String} {others : List String} {K D : Addr} {c1 c2 c3 : ME} {ret : MS} (pg : PG prog w G Γ h₀ mg mb) (X : Xcs h₀ mg mb bk bad others K D) {d : Nat} {v : MV} {val : Value} {fz : List Addr} {μ : MH} {s : Shared} {A : Around} {fa : Addr} {outer : List Env} {R : Result → Shared → Prop}
    (hΓ : Γ f = some ⟨1, needBody2 c1 c2 c3 bad ret⟩) (hA : OkA (d + 1) A) (B : Base h₀ fz μ s) (r : RepH prog w μ s.heap) (fi : FzIn fz μ) (rv : RepV s.heap v val) (hfn : FnAt h₀ f fa) (st : Stk A h₀ s.heap μ outer)
    (hbad : tstM G (calls G Γ d) c1 fz (args0 [v]) (fun μ₁ => ∃ src all, mkSrc .plain [v] = some src ∧ src.items μ₁ = some all ∧ fits all.length ∧ loopM (.one 1) (stepM G (calls G Γ d) c2 c3 fz src.held) (fun _ _ _ => False) all (args0 [v]) μ₁) μ)
    (hR : ∀ e a0 s', Heap.FlyingW h₀ outer e (.ref K) a0 s'.heap → Upto μ s.heap s'.heap → s'.os = s.os → s'.gens = s.gens → R (.error (.ref e)) s') : codeAny (model prog w) A (.call (.ref fa) ⟨[val], []⟩) R s := by
  refine P0 pg hΓ rfl hA B r fi (vs := [v]) (by simp only [RepVs]; exact ⟨rv, trivial⟩) hfn fun S env body s₁ hb C hA' en => ?_
  have hfr : (A.deeper env).frames = some (env :: outer) := Around.frames_deeper st.fr
  cases body with
  | nil => exact (Bool.false_ne_true hb).elim
  | cons x xs =>
    replace hb := Xy hb
    refine wpAny_execs_cons (Ug pg X hA' C hb.1 hbad (fun μ₂ s₂ e h' tk args g₂ C₂ hm => ?_) fun μ₂ s₂ g₂ C₂ hloop => ?_)
    · have k2 : ∀ b o, μ b = none → s.heap.get? b = some o → s₂.heap.get? b = some o := fun b o hm e => (g₂.keep b o (.inl hm) (en.keep b o e)).1
      refine wpAny_leaves_madeW hfr en.frame (fun b o e => (C₂.base b o e).1) (Jz C₂ en.frame (Kz st.ff st.nt k2)) hm fun h'' t' x1 _ _ x4 => ?_
      exact hR e (.ref t') _ x1 (fun b o hm' e' hd => x4 b o (hm.keeps b o (k2 b o hm' e')) hd) (g₂.os.trans en.os) (g₂.gens.trans en.gens)
    have hb2 := hb.2
    cases xs with
    | nil => exact (Bool.false_ne_true hb2).elim
    | cons x2 xs =>
      replace hb2 := Xy hb2
      have lead : ∀ (fz' : List Addr) (vars' : MVars) (μ₅ : MH) (s₅ : Shared) (e : Addr) (h' : Heap) (tk : Nat) (args : List Value), GrowS env fz μ₂ s₂ μ₅ s₅ → Cur prog w h₀ S env vars' fz' μ₅ s₅ → Heap.MadeExcOf s₅.heap h' e (.ref K) args →
          notedBy (model prog w) (A.deeper env) env (fun e s' => cameBackBy (model prog w) (A.deeper env) env (fun e s' => wpAny (model prog w) (A.deeper env) (leaving env e) (fun _ s'' => R (.error e) s'') (fun e' s'' => R (.error e') s'') s') e s') (.ref e) { s₅ with heap := h', toks := tk } := by
        intro fz' vars' μ₅ s₅ e h' tk args g₅ C₅ hm
        have ne : ∀ {b c : Addr} {o : Obj}, s.heap.get? b = some o → s.heap.get? c = none → b ≠ c := fun e n q => by rw [q, n] at e; cases e
        have k5 : ∀ b o, μ b = none → s.heap.get? b = some o → s₅.heap.get? b = some o := fun b o hm e => by
          obtain ⟨e2, m2⟩ := g₂.keep b o (.inl hm) (en.keep b o e)
          exact (g₅.keep b o (.inl (m2.trans hm)) (ne e en.new) (fun y c hc => ne e (en.cells y c hc)) e2).1
        unfold notedBy
        refine note_made hfr en.frame (fun b o e => (C₅.base b o e).1) (Jz C₅ en.frame (Kz st.ff st.nt k5)) hm fun h₆ t' hh₆ u₆ => ?_
        refine came_back en.frame hh₆ fun h₇ hh₇ u₇ => ?_
        unfold leaving
        refine wpAny_bind (wpAny_noteFrame_againW en.frame hh₇.2.2.2 (wpAny_landsW hh₇ fun h₈ hfl₈ u₈ => ?_))
        obtain ⟨y1, y2, ⟨_, _, y3⟩, y4⟩ := hfl₈
        refine hR e (.ref t') _ ⟨y1, y2, y3, y4⟩ (fun b o hm' e' hd => ?_) (g₅.os.trans (g₂.os.trans en.os)) (g₅.gens.trans (g₂.gens.trans en.gens))
        exact ((u₆.trans u₇).trans u₈) b o (hm.keeps b o (k5 b o hm' e')) hd
      refine wpAny_execs_cons (wpAny_mono (for_gen (d := d) pg (Y1 pg (Ym pg d) [.var 0]) (R := fun _ _ _ => False) (B := stepM G (calls G Γ d) c2 c3 fz) hb2.1 hA' C₂ ⟨v, rfl, hloop⟩ ?_) (fun f s₃ h₃ => ?_) fun _ _ e => e)
      · intro held bd vars' μ₃ s₃ F hbd C₃ g₃ hB
        cases bd with
        | nil => exact (Bool.false_ne_true hbd).elim
        | cons y1 ys =>
          replace hbd := Xy hbd
          refine wpAny_execs_cons (Ug pg X hA' C₃ hbd.1 hB (fun μ₄ s₄ e h' tk args g₄ C₄ hm => lead _ _ _ _ e h' tk args (g₃.trans g₄.weak.toS) C₄ hm) fun μ₄ s₄ g₄ C₄ hB₄ => ?_)
          have hbd2 := hbd.2
          cases ys with
          | nil => exact (Bool.false_ne_true hbd2).elim
          | cons y2 ys =>
            replace hbd2 := Xy hbd2
            refine wpAny_execs_cons (Ug pg X hA' C₄ hbd2.1 hB₄ (fun μ₅ s₅ e h' tk args g₅ C₅ hm => lead _ _ _ _ e h' tk args (g₃.trans (g₄.trans g₅).weak.toS) C₅ hm) fun μ₅ s₅ g₅ C₅ hF => ?_)
            have hbd3 := hbd2.2
            cases ys with
            | cons _ _ => exact (Bool.false_ne_true hbd3).elim
            | nil => exact wpAny_execs_nil ⟨.next, vars', μ₅, hF, rfl, C₅, (g₄.trans g₅).toS⟩
      · obtain ⟨fl, vars₃, μ₃, hf, _⟩ := h₃
        exact hf.elim
end
end Mine
end
section
set_option maxRecDepth 100000
namespace Mine
open PySem PySem.Calls PyProof.Rows PySem.W
noncomputable def Raises (prog : Program) (w : World) (h₀ : Heap) (K : Addr) (need : String) (v : MV) (fz : List Addr) (μ : MH) (d : Nat) : Prop := ∀ (s : Shared) (A : Around) (val : Value) (fa : Addr) (outer : List Env) (R : Result → Shared → Prop), OkA (d + 1) A → Base h₀ fz μ s → RepH prog w μ s.heap → FzIn fz μ → RepV s.heap v val → FnAt h₀ need fa → Stk A h₀ s.heap μ outer →
  (∀ e a0 s', Heap.FlyingW h₀ outer e (.ref K) a0 s'.heap → Upto μ s.heap s'.heap → s'.os = s.os → s'.gens = s.gens → R (.error (.ref e)) s') → codeAny (model prog w) A (.call (.ref fa) ⟨[val], []⟩) R s
section
variable {prog : Program} {w : World} {G : String → Option MV} {Γ : String → Option MFun} {h₀ : Heap} {mg mb : Str → Option Value}
theorem raises2 {bk bad f : String} {others : List String} {K D : Addr} {c1 c2 c3 : ME} {ret : MS} (pg : PG prog w G Γ h₀ mg mb) (X : Xcs h₀ mg mb bk bad others K D) {d : Nat} {v : MV} {fz : List Addr} {μ : MH} (hΓ : Γ f = some ⟨1, needBody2 c1 c2 c3 bad ret⟩)
    (hbad : tstM G (calls G Γ d) c1 fz (args0 [v]) (fun μ₁ => ∃ src all, mkSrc .plain [v] = some src ∧ src.items μ₁ = some all ∧ fits all.length ∧ loopM (.one 1) (stepM G (calls G Γ d) c2 c3 fz src.held) (fun _ _ _ => False) all (args0 [v]) μ₁) μ) : Raises prog w h₀ K f v fz μ d :=
  fun s A val fa outer R hA B r fi rv hfn st hR => B1 pg X hΓ hA B r fi rv hfn st hbad hR
theorem O4 {bk bad need f : String} {others o1 o2 : List String} {K D : Addr} {ei ki : Nat} (pg : PG prog w G Γ h₀ mg mb) (X : Xcs h₀ mg mb bk bad others K D) {d : Nat} {v : MV} {val : Value} {fz : List Addr} {μ : MH} {s : Shared} {A : Around} {fa : Addr} {outer : List Env} {R : Result → Shared → Prop}
    (hΓ : Γ f = some ⟨1, refuseBody need bk bad o1 o2 ei ki⟩) (hfnN : ∃ fn, FnAt h₀ need fn) (hA : OkA (d + 2) A) (B : Base h₀ fz μ s) (r : RepH prog w μ s.heap) (fi : FzIn fz μ) (rv : RepV s.heap v val) (hfn : FnAt h₀ f fa) (st : Stk A h₀ s.heap μ outer) (hek : ei ≠ ki)
    (h1 : ∀ c ∈ o1, c ∈ others) (h2 : ∀ c ∈ o2, c ∈ others) (hl1 : o1.length ≤ 100) (hl2 : o2.length ≤ 100)
    (hbad : Raises prog w h₀ K need v fz μ d)
    (hR : ∀ s', (∀ b o, h₀.get? b = some o → s'.heap.get? b = some o) → s'.os = s.os → s'.gens = s.gens → R (.ok (.ret (.bool true))) s') : codeAny (model prog w) A (.call (.ref fa) ⟨[val], []⟩) R s := by
  refine P0 (d := d + 1) pg hΓ rfl hA B r fi (vs := [v]) (by simp only [RepVs]; exact ⟨rv, trivial⟩) hfn fun S env body s₁ hb C hA' en => ?_
  cases body with
  | nil => exact (Bool.false_ne_true hb).elim
  | cons x xs =>
    have hx : chkCatch need bk bad o1 o2 ei ki S.tab S.names x = true := (Xy hb).1
    obtain ⟨c1, c2⟩ := and2 hx
    obtain ⟨c2, c3⟩ := and2 c2
    obtain ⟨tx, n, suite, pos, ehs, c3⟩ := oneH_inv c3
    obtain ⟨d3, c4⟩ := and2 c3
    obtain ⟨d4, c5⟩ := and2 c4
    obtain ⟨d5, c6⟩ := and2 c5
    obtain ⟨y, z, u, rfl, hy, hz, hu⟩ := Ny c6
    have ex : x = .Try (nodeS x).x (nodeS x).hs [] [] (nodeS x).p := V4 c1
    rw [ehs] at ex
    rw [ex]
    obtain ⟨fn, hfnN⟩ := hfnN
    have C' : Cur prog w h₀ ⟨S.tab, S.names, [need]⟩ env (args0 [v]) fz μ s₁ := C.withF fun g hg => by
      obtain rfl := List.mem_singleton.mp hg
      exact ⟨fn, hfnN⟩
    refine wpAny_execs_cons (wpAny_Try_except ?_)
    generalize (nodeS x).x = b at c2
    cases b with
    | nil => exact (Bool.false_ne_true c2).elim
    | cons sx bs =>
      obtain ⟨ve, pe, rfl, hn0, hv⟩ := Vs (Xy c2).1
      obtain ⟨g, np, as, cp, rfl, hg, ha⟩ := V3 hv
      simp only [Bool.and_eq_true, decide_eq_true_eq] at ha
      obtain ⟨⟨_, ha⟩, _⟩ := ha
      refine wpAny_execs_cons (wpAny_Expr_any ?_ (by unfold interactive; rw [C.fr.kind]; rfl) (Ua hn0 _ _))
      obtain ⟨m, hm, hmf, o, fd, ho, hfd⟩ := id hfnN
      obtain ⟨rfl, hk, hd⟩ := Z8 hg
      refine wpAny_Call_ofName (Name_function_global C'.fr.kind (by unfold Env.kindOf; rw [C'.fr.names]; exact hk) (loadGlobal_global (mg := m) ?_ hmf ?_) hd)
      · rw [C'.fr.glob]; exact hm.keeps fun b o e => (C'.base b o e).1
      rw [Y4 cp ha]
      show wpAny _ _ (callWith cp (.ref fn) [] _ []) _ _ s₁
      refine callWith_function (o := o) (fd := fd) (Xz (Xv as) ?_)
      cases as with
      | nil => exact (Bool.false_ne_true ha).elim
      | cons w0 ws =>
        cases ws with
        | cons _ _ => exact (Bool.false_ne_true (Xw ha).2).elim
        | nil =>
          obtain ⟨wn, wp, rfl, hwv⟩ := Jx (Xw ha).1
          refine Calls.spliced_cons (wpAny_Name (Zx C' hwv (mv := v) rfl fun uv ru => ?_) (Yj hwv))
          refine Calls.spliced_nil ⟨⟨(C'.base _ _ ho).1, hfd⟩, ?_⟩
          have hfr := Around.frames_deeper (env := env) st.fr
          refine wpAny_call (hbad _ _ _ _ _ _ hA' C.base C.heap C.fzin ru hfnN ⟨hfr, Jz C en.frame (Kz st.ff st.nt fun b o _ e => en.keep b o e), fun e' he' L hL => ?_⟩ fun e a0 s₂ hfl hup ho₂ hg₂ => ?_)
          · rcases List.mem_cons.mp he' with rfl | he'
            · rw [en.frame] at hL; cases hL; exact C.fr.fixl
            · exact st.nt e' he' L hL
          · refine Kl pg X C' hfr en.frame hfl hup hek h1 h2 hl1 hl2 d3 d4 (of_decide_eq_true d5) hy hz hu (by have := hA'.units; omega) fun s₃ k₃ ho₃ hg₃ => ?_
            exact hR s₃ k₃ (ho₃.trans (ho₂.trans en.os)) (hg₃.trans (hg₂.trans en.gens))
theorem law2_native {bk bad need rf f : String} {others o1 o2 : List String} {K D : Addr} {ei ki vi : Nat} (pg : PG prog w G Γ h₀ mg mb) (X : Xcs h₀ mg mb bk bad others K D) {d : Nat} {pre post : List MS} {c : ME} {s : Shared} {a fa : Addr} {vs : List Value} {ns : List Int} {E : Value → Shared → Prop}
    (hs : s.heap = h₀) (hfa : mg (Str.ofString f) = some (.ref fa)) (hΓ : Γ f = some ⟨1, pre ++ (.ite c [.ret (.call rf [.var vi])] [] :: post)⟩) (hΓr : Γ rf = some ⟨1, refuseBody need bk bad o1 o2 ei ki⟩) (hfnN : ∃ fn, FnAt h₀ need fn) (hek : ei ≠ ki)
    (h1 : ∀ c ∈ o1, c ∈ others) (h2 : ∀ c ∈ o2, c ∈ others) (hl1 : o1.length ≤ 100) (hl2 : o2.length ≤ 100) (hA : OkA (d + 3) callerA) (hp : s.heap.PlainList a vs.toArray) (hi : IntsAre vs ns)
    (hrun : runT G (calls G Γ (d + 2)) [a] (fun vars μ => ev G (calls G Γ (d + 2)) X0 c [a] vars (fun v μ' => ∃ b, truthy μ' v = some b ∧ if b then (∃ u, vars vi = some u ∧ Raises prog w h₀ K need u [a] μ' d) else exs G (calls G Γ (d + 2)) X0 post [a] vars (fun fl _ _ => fl = .ret (.bool true)) μ') μ) pre (args0 [.ref a]) (upd (fun _ => none) a (.list (ns.map .int)))) :
    wpAny (model prog w) callerA (call (.ref fa) [.ref a]) (fun v s' => v = .bool true ∧ (∀ b o, s.heap.get? b = some o → s'.heap.get? b = some o) ∧ s'.os = s.os ∧ s'.gens = s.gens) E s := by
  subst hs
  have hrep : RepVs s.heap (ns.map .int) vs := by
    clear hrun hp
    induction hi with
    | nil => trivial
    | cons i t hi ih => simp only [List.map_cons, RepVs]; exact ⟨by simp only [RepV]; exact ⟨_, rfl⟩, ih⟩
  have hfn : FnAt s.heap f fa := by
    obtain ⟨fa', m, hm, hmf, r⟩ := pg.fnAt hΓ
    have : m = mg := hm.eq_nsMap.trans pg.g.eq_nsMap.symm
    subst this
    rw [hfa] at hmf; cases hmf
    exact ⟨m, hm, hfa, r⟩
  refine wpAny_call (P0 (d := d + 2) pg hΓ rfl hA (fz := [a]) (μ := upd (fun _ => none) a (.list (ns.map .int))) (vs := [.ref a]) (fun b o e => ⟨e, ?_⟩) ?_ ?_ (by simp [RepVs, RepV]) hfn fun S env body s₁ hb C hA' en => ?_)
  · unfold upd
    split
    · rename_i q; subst q; exact .inr (by simp)
    · exact .inl rfl
  · intro b o e
    unfold upd at e
    split at e
    · rename_i q; subst q; cases e; exact ⟨vs, hp, hrep⟩
    · cases e
  · intro b hb
    obtain rfl := List.mem_singleton.mp hb
    simp [upd]
  refine Ke pg (Ym pg (d + 2)) hA' pre body _ _ s₁ hb C hrun fun xs' vars' μ' s' hxs C' ho' hg' hfin => ?_
  cases xs' with
  | nil => exact (Bool.false_ne_true hxs).elim
  | cons x xs =>
    replace hxs := Xy hxs
    obtain ⟨tt, y, z, p, rfl, h⟩ := Ki hxs.1
    simp only [Bool.and_eq_true] at h
    refine wpAny_execs_cons (wpAny_If (wpAny_mono ((Y5 pg (Ym pg (d + 2)) c).2 S _ env _ [a] μ' s' (fun b μ' => if b then (∃ u, vars' vi = some u ∧ Raises prog w s.heap K need u [a] μ' d) else exs G (calls G Γ (d + 2)) X0 post [a] vars' (fun fl _ _ => fl = .ret (.bool true)) μ') _ _ h.1.1 hA' C' hfin) (fun b s₂ h₂ => ?_) fun _ _ e => e))
    obtain ⟨μ₂, hq₂, r₂, g₂⟩ := h₂
    have C₂ := C'.grow g₂ r₂
    have ho₂ : s₂.os = s.os := g₂.os.trans (ho'.trans en.os)
    have hg₂ : s₂.gens = s.gens := g₂.gens.trans (hg'.trans en.gens)
    cases b with
    | true =>
      obtain ⟨u, hu, hbad⟩ := hq₂
      have hy := h.1.2
      cases y with
      | nil => exact (Bool.false_ne_true hy).elim
      | cons x' ys =>
        obtain ⟨ve, pe, rfl, hve⟩ := Oh (Xy hy).1
        refine wpAny_execs_cons (wpAny_Return_some (Vm C₂ hve hu fun fr val hfr rv => ?_))
        refine O4 (d := d) pg X hΓr hfnN hA' C₂.base C₂.heap C₂.fzin rv hfr (outer := [env]) ⟨Around.frames_deeper (outer := []) rfl, Jz C₂ en.frame trivial, fun e' he' L hL => ?_⟩ hek h1 h2 hl1 hl2 hbad fun s₃ k₃ ho₃ hg₃ => ⟨rfl, k₃, ho₃.trans ho₂, hg₃.trans hg₂⟩
        obtain rfl := List.mem_singleton.mp he'
        rw [en.frame] at hL; cases hL; exact C₂.fr.fixl
    | false =>
      have hz := h.2
      cases z with
      | cons _ _ => exact (Bool.false_ne_true hz).elim
      | nil =>
        refine wpAny_execs_nil ?_
        refine wpAny_mono (J4 pg (Ym pg (d + 2)) post S xs env vars' [a] μ₂ s₂ _ _ _ hxs.2 hA' C₂ hq₂) (fun f s₃ h₃ => ?_) fun _ _ e => e
        obtain ⟨fl, vars₃, μ₃, rfl, hf, C₃, g₃⟩ := h₃
        obtain ⟨v, rfl, rv⟩ := hf
        obtain rfl : v = .bool true := by simpa [RepV] using rv
        exact ⟨rfl, fun b o e => (C₃.base b o e).1, g₃.os.trans ho₂, g₃.gens.trans hg₂⟩
end
end Mine
end
section
namespace Mine
open PySem
noncomputable def nb1 : ME := .or [(.not (.isinst (.var 0) .dict)), (.cmp (.bi .len [(.var 0)]) [.gt] [(.glob "MOST")])]
noncomputable def nb2 : ME := .or [(.not (.call "is_whole" [(.var 1)])), (.cmp (.var 1) [.lt] [(.cint 1)]), (.not (.call "is_entry" [(.idx (.var 0) (.var 1))]))]
noncomputable def nb3 : ME := .and [(.cmp (.idx (.idx (.var 0) (.var 1)) (.cint 0)) [.eq] [(.cstr "undo")]), (.cmp (.idx (.idx (.var 0) (.var 1)) (.cint 1)) [.ge] [(.var 1)])]
noncomputable def Ni : MFun := ⟨1, needBody2 nb1 nb2 nb3 "BadBook" (.ret (.bi .dict [(.var 0)]))⟩
noncomputable def U7 : MFun := ⟨1, refuseBody "need_book" "BookError" "BadBook" ["BadEntry", "NoEntry", "Closed", "TooMany"] ["Gone", "BadText"] 1 2⟩
end Mine
end
section
namespace Mine
open PySem
noncomputable def Br : MS := .ret (.and [(.isinst (.var 0) .int), (.not (.isinst (.var 0) .bool))])
noncomputable def Oo : MFun := ⟨1, [Br]⟩
noncomputable def Pq : MS := .ret (.cbool false)
noncomputable def f_is_name_1 : MS := .ite (.or [(.not (.isinst (.var 0) .str)), (.not (.cmp (.cint 1) [.le, .le] [(.bi .len [(.var 0)]), (.glob "MOST_SIGNS")]))]) [Pq] []
noncomputable def No : MS := .ret (.cbool false)
noncomputable def U8 : MS := .ite (.cmp (.var 1) [.notin] [(.glob "LETTERS")]) [No] []
noncomputable def f_is_name_2 : MS := .for (.one 1) .plain [(.var 0)] [U8]
noncomputable def f_is_name_3 : MS := .ret (.cbool true)
noncomputable def Ah : MFun := ⟨1, [f_is_name_1, f_is_name_2, f_is_name_3]⟩
noncomputable def f_is_day_1 : MS := .ret (.and [(.call "is_whole" [(.var 0)]), (.cmp (.cint 0) [.le, .le] [(.var 0), (.glob "MOST_DAY")])])
noncomputable def f_is_day : MFun := ⟨1, [f_is_day_1]⟩
noncomputable def Bq : MS := .ret (.and [(.call "is_whole" [(.var 0)]), (.cmp (.bin .sub (.cint 0) (.glob "MOST_WORTH")) [.le, .le] [(.var 0), (.glob "MOST_WORTH")])])
noncomputable def On : MFun := ⟨1, [Bq]⟩
noncomputable def Ow : MS := .ret (.cbool false)
noncomputable def Vi : MS := .ite (.or [(.not (.isinst (.var 0) .tuple)), (.cmp (.bi .len [(.var 0)]) [.lt] [(.cint 2)]), (.not (.isinst (.idx (.var 0) (.cint 0)) .str))]) [Ow] []
noncomputable def Ov : MS := .ret (.and [(.cmp (.bi .len [(.var 0)]) [.eq] [(.cint 2)]), (.call "is_whole" [(.idx (.var 0) (.cint 1))]), (.cmp (.idx (.var 0) (.cint 1)) [.ge] [(.cint 1)])])
noncomputable def Vh : MS := .ite (.cmp (.idx (.var 0) (.cint 0)) [.eq] [(.cstr "undo")]) [Ov] []
noncomputable def Ou : MS := .ret (.cbool false)
noncomputable def Vg : MS := .ite (.or [(.cmp (.idx (.var 0) (.cint 0)) [.notin] [(.tuple [(.cstr "tell"), (.cstr "clear"), (.cstr "like")])]), (.cmp (.bi .len [(.var 0)]) [.lt] [(.cint 4)])]) [Ou] []
noncomputable def Ot : MS := .ret (.cbool false)
noncomputable def Vf : MS := .ite (.or [(.not (.call "is_name" [(.idx (.var 0) (.cint 1))])), (.not (.call "is_day" [(.idx (.var 0) (.cint 2))])), (.not (.call "is_day" [(.idx (.var 0) (.cint 3))])), (.cmp (.idx (.var 0) (.cint 2)) [.gt] [(.idx (.var 0) (.cint 3))])]) [Ot] []
noncomputable def Os : MS := .ret (.cmp (.bi .len [(.var 0)]) [.eq] [(.cint 4)])
noncomputable def Ve : MS := .ite (.cmp (.idx (.var 0) (.cint 0)) [.eq] [(.cstr "clear")]) [Os] []
noncomputable def Oq : MS := .ret (.cbool false)
noncomputable def Vd : MS := .ite (.cmp (.bi .len [(.var 0)]) [.ne] [(.cint 5)]) [Oq] []
noncomputable def Op : MS := .ret (.call "is_worth" [(.idx (.var 0) (.cint 4))])
noncomputable def Vc : MS := .ite (.cmp (.idx (.var 0) (.cint 0)) [.eq] [(.cstr "tell")]) [Op] []
noncomputable def Vb : MS := .ret (.call "is_name" [(.idx (.var 0) (.cint 4))])
noncomputable def Ox : MFun := ⟨1, [Vi, Vh, Vg, Vf, Ve, Vd, Vc, Vb]⟩
noncomputable def Zz : MS := .assign 2 (.bin .mod (.var 1) (.cint 8))
noncomputable def Zy : MS := .assign 3 (.bin .fdiv (.var 1) (.cint 8))
noncomputable def Ok : MS := .assign 4 (.tuple [(.cstr "tell"), (.cstr "a"), (.cint 3), (.cint 4), (.cint 1)])
noncomputable def N0 : MS := .setidx (.var 0) (.cint 100) (.idx (.list [(.tuple [(.cstr "tell"), (.cstr "a"), (.cint 4), (.cint 3), (.cint 1)]), (.tuple [(.cstr "clear"), (.cstr "A"), (.cint 0), (.cint 1)]), .cnone, (.list [(.cstr "undo"), (.cint 1)])]) (.bin .mod (.var 3) (.cint 4)))
noncomputable def Kp : MS := .ite (.cmp (.var 2) [.eq] [(.cint 1)]) [N0] []
noncomputable def Vz : MS := .setidx (.var 0) (.idx (.list [(.cint 0), (.neg (.cint 1)), (.cbool true), (.cstr "1"), .cnone, (.tuple [(.cint 1)]), (.neg (.bin .pow (.cint 10) (.cint 9)))]) (.bin .mod (.var 3) (.cint 7))) (.var 4)
noncomputable def Ko : MS := .ite (.cmp (.var 2) [.eq] [(.cint 2)]) [Vz] []
noncomputable def Vy : MS := .setidx (.var 0) (.cint 100) (.tuple [(.cstr "undo"), (.bin .add (.cint 100) (.bin .mod (.var 3) (.cint 3)))])
noncomputable def Yl : MS := .ite (.cmp (.var 2) [.eq] [(.cint 3)]) [Vy] []
noncomputable def Vx : MS := .ret (.idx (.list [.cnone, (.list []), (.list [(.tuple [(.cint 1), (.var 4)])]), (.cstr "1"), (.cint 1), (.tuple [(.var 4)])]) (.bin .mod (.var 3) (.cint 6)))
noncomputable def Yk : MS := .ite (.cmp (.var 2) [.eq] [(.cint 4)]) [Vx] []
noncomputable def Y8 : MS := .ret (.var 0)
noncomputable def V8 : MFun := ⟨2, [Zz, Zy, Ok, Kp, Ko, Yl, Yk, Y8]⟩
noncomputable def Bp : MS := .assign 1 (.call "_law_book" [(.var 0), (.cint 12)])
noncomputable def Nk : MS := .setidx (.var 1) (.bin .add (.cint 200) (.bin .mul (.cint 3) (.var 2))) (.tuple [(.cstr "clear"), (.cstr "a"), (.var 2), (.bin .mul (.cint 2) (.var 2))])
noncomputable def f_law_2_1 : MS := .for (.one 2) .range [(.bin .sub (.bin .add (.cint 28) (.bin .mod (.call "_law_of" [(.var 0), (.cint 2)]) (.cint 5))) (.bi .len [(.var 1)]))] [Nk]
noncomputable def Bo : MS := .ite (.cmp (.bin .mod (.bin .fdiv (.call "_law_of" [(.var 0), (.cint 0)]) (.cint 12)) (.cint 9)) [.eq] [(.cint 1)]) [f_law_2_1] []
noncomputable def Nw : MS := .assign 3 (.call "_law_of" [(.var 0), (.cint 3)])
noncomputable def f_law_4_1 : MS := .expr (.meth .pop2 (.var 1) [(.cint 1), .cnone])
noncomputable def V9 : MS := .ite (.and [(.cmp (.bin .mod (.var 3) (.cint 8)) [.eq] [(.cint 2)]), (.cmp (.bin .mod (.bin .fdiv (.var 3) (.cint 8)) (.cint 7)) [.eq] [(.cint 2)])]) [f_law_4_1] []
noncomputable def U0 : MS := .assign 1 (.call "_law_spoilt" [(.var 1), (.var 3)])
noncomputable def f_law_6_1 : MS := .ret (.call "_law_refused" [(.var 1)])
noncomputable def f_law_6 : MS := .ite (.or [(.cmp (.cint 0) [.lt, .lt] [(.bin .mod (.var 3) (.cint 8)), (.cint 5)]), (.and [(.isinst (.var 1) .dict), (.cmp (.bi .len [(.var 1)]) [.gt] [(.cint 30)])])]) [f_law_6_1] []
noncomputable def f_law_7 : MS := .assign 4 (.bi .dict [(.var 1)])
noncomputable def Bn : MS := .assign 5 (.call "need_book" [(.var 1)])
noncomputable def f_law_9_1 : MS := .ret (.cbool false)
noncomputable def Nv : MS := .ite (.or [(.not (.isinst (.var 5) .dict)), (.cmp (.var 5) [.ne] [(.var 4)]), (.cmp (.var 1) [.ne] [(.var 4)])]) [f_law_9_1] []
noncomputable def Va : MS := .setidx (.var 5) (.cint 999) (.tuple [(.cstr "undo"), (.cint 1)])
noncomputable def Kt : MS := .assign 6 (.call "need_book" [(.var 1)])
noncomputable def Jn : MS := .setidx (.var 1) (.cint 998) (.tuple [(.cstr "undo"), (.cint 1)])
noncomputable def J1 : MS := .ret (.and [(.cmp (.var 6) [.eq] [(.var 4)]), (.cmp (.cint 999) [.notin] [(.var 1)])])
noncomputable def f_law : MFun := ⟨1, [Bp, Bo, Nw, V9, U0, f_law_6, f_law_7, Bn, Nv, Va, Kt, Jn, J1]⟩
noncomputable def defs02 : Defs := [
  ("is_whole", Oo, [(0, Str.ofString "thing")]),
  ("is_name", Ah, [(0, Str.ofString "thing"), (1, Str.ofString "sign")]),
  ("is_day", f_is_day, [(0, Str.ofString "thing")]),
  ("is_worth", On, [(0, Str.ofString "thing")]),
  ("is_entry", Ox, [(0, Str.ofString "thing")]),
  ("need_book", Ni, [(0, Str.ofString "book"), (1, Str.ofString "number")]),
  ("_law_of", Jm, [(0, Str.ofString "_law_script"), (1, Str.ofString "_law_k")]),
  ("_law_names", Zh, [(0, Str.ofString "_law_cell"), (1, Str.ofString "_law_many"), (2, Str.ofString "_law_some"), (3, Str.ofString "_law_names_here"), (4, Str.ofString "_law_k"), (5, Str.ofString "_law_more"), (6, Str.ofString "_law_word"), (7, Str.ofString "_law_at")]),
  ("_law_entry", Zi, [(0, Str.ofString "_law_names_here"), (1, Str.ofString "_law_base_here"), (2, Str.ofString "_law_n"), (3, Str.ofString "_law_number"), (4, Str.ofString "_law_low"), (5, Str.ofString "_law_high"), (6, Str.ofString "_law_name")]),
  ("_law_base", J0, [(0, Str.ofString "_law_script")]),
  ("_law_book", Uo, [(0, Str.ofString "_law_script"), (1, Str.ofString "_law_many"), (2, Str.ofString "_law_names_here"), (3, Str.ofString "_law_gap"), (4, Str.ofString "_law_rows"), (5, Str.ofString "_law_k"), (6, Str.ofString "_law_number"), (7, Str.ofString "_law_cut")]),
  ("_law_refused", U7, [(0, Str.ofString "_law_book_here"), (1, Str.ofString "e"), (2, Str.ofString "_law_kinds")]),
  ("_law_spoilt", V8, [(0, Str.ofString "_law_book_here"), (1, Str.ofString "_law_cell"), (2, Str.ofString "_law_kind"), (3, Str.ofString "_law_more"), (4, Str.ofString "_law_odd")]),
  ("law", f_law, [(0, Str.ofString "_law_script"), (1, Str.ofString "_law_book_here"), (2, Str.ofString "_law_k"), (3, Str.ofString "_law_cell"), (4, Str.ofString "_law_kept"), (5, Str.ofString "_law_found"), (6, Str.ofString "_law_again")])]
end Mine
end
section
namespace Mine
open PySem
variable {G : String → Option MV} {Γ : String → Option MFun}
theorem Yw {A B : Prop} (h : B) : if false = true then A else B := h
theorem Y9 {A B : Prop} (h : A) : if true = true then A else B := h
theorem lb {a b : Nat} (h : Nat.ble a b = true) : a ≤ b := Nat.le_of_ble_eq_true h
section
variable {Φ : CallSpec} {X : MX} {fz : List Addr} {vars : MVars} {Q : MQ} {μ : MH} {R : MFlow → MVars → MH → Prop}
theorem Jg {f : BI} {e : ME} (h : ev G Φ X e fz vars (fun v μ' => biM fz f [v] Q μ') μ) : ev G Φ X (.bi f [e]) fz vars Q μ := h
theorem Vj {f : String} {e : ME} (h : ev G Φ X e fz vars (fun v μ' => Φ f [v] fz Q X μ') μ) : ev G Φ X (.call f [e]) fz vars Q μ := h
theorem ev_bin {op : BOp} {a b : ME} (h : ev G Φ X a fz vars (fun x μ' => ev G Φ X b fz vars (fun y μ'' => binM fz op x y Q μ'') μ') μ) : ev G Φ X (.bin op a b) fz vars Q μ := h
theorem Jo {i : Nat} {k : Int} {x v : MV} (hv : vars i = some x) (hx : idxM μ x (.int k) = some v) (h : Q v μ) : ev G Φ X (.idx (.var i) (.cint k)) fz vars Q μ := ⟨x, hv, v, hx, h⟩
theorem x_for1 {t : MT} {k : SK} {it : ME} {body : List MS} (h : ev G Φ X it fz vars (fun v μ' => ∃ src all, mkSrc k [v] = some src ∧ src.items μ' = some all ∧ fits all.length ∧ loopM t (fun vs F μ => exs G Φ X body (src.held ++ fz) vs F μ) R all vars μ') μ) : ex G Φ X (.for t k [it] body) fz vars R μ := h
theorem x_as {i : Nat} {e : ME} (h : ev G Φ X e fz vars (fun v μ' => R .next (setv vars i v) μ') μ) : ex G Φ X (.assign i e) fz vars R μ := h
theorem Zu {e : ME} (h : ev G Φ X e fz vars (fun v μ' => R (.ret v) vars μ') μ) : ex G Φ X (.ret e) fz vars R μ := h
end
inductive Vl (μ : MH) : MV → Prop
  | none : Vl μ .none
  | bool (b : Bool) : Vl μ (.bool b)
  | int (i : Int) : i ≤ 1000000000000000000000000000000 → Vl μ (.int i)
  | str (s : Str) : PyData.strOk s = true → s.length ≤ 100 → Vl μ (.str s)
  | tup : Vl μ (.tup [.int 1])
  | lst (a : Addr) : μ a = some (.list [.int 2]) → Vl μ (.ref a)
theorem Vl.ext {μ μ' : MH} (x : Ext μ μ') {v : MV} (h : Vl μ v) : Vl μ' v := by
  cases h with
  | none => exact .none
  | bool b => exact .bool b
  | int i h => exact .int i h
  | str s h1 h2 => exact .str s h1 h2
  | tup => exact .tup
  | lst a h => exact .lst a (x _ _ h)
theorem Vl.deep {μ : MH} {v : MV} (h : Vl μ v) (n : Nat) : ∃ dd, deep μ (n + 2) v = some dd := by
  cases h with
  | none => exact ⟨_, rfl⟩
  | bool b => exact ⟨_, rfl⟩
  | int i h => exact ⟨_, rfl⟩
  | str s h1 h2 => exact ⟨.str s, by simp [Mine.deep, h1]⟩
  | tup => exact ⟨.tuple [.int 1], by simp [Mine.deep, List.mapM_cons, List.mapM_nil]⟩
  | lst a h => exact ⟨.list [.int 2], by simp [Mine.deep, Kg h, List.mapM_cons, List.mapM_nil]⟩
noncomputable def isStr : MV → Bool
  | .str _ => true
  | _ => false
noncomputable def nameP : MV → Bool
  | .str s => decide (1 ≤ s.length) && decide (s.length ≤ 8) && s.cps.toList.all fun c => (S "abcdefghijklmnopqrstuvwxyz").cps.toList.contains c
  | _ => false
noncomputable def wholeP : MV → Int → Int → Bool
  | .int i, lo, hi => decide (lo ≤ i) && decide (i ≤ hi)
  | _, _, _ => false
theorem Vl.ty_str {μ : MH} {v : MV} (h : Vl μ v) : isTy μ .str v = some (isStr v) := by
  cases h with
  | lst a h => show isTyO .str (μ a) = _; rw [h]; rfl
  | _ => rfl
noncomputable def isInt : MV → Bool
  | .int _ => true
  | _ => false
noncomputable def isBool : MV → Bool
  | .bool _ => true
  | _ => false
theorem Vl.ty_int {μ : MH} {v : MV} (h : Vl μ v) : isTy μ .int v = some (isInt v || isBool v) := by
  cases h with
  | lst a h => show isTyO .int (μ a) = _; rw [h]; rfl
  | _ => rfl
theorem Vl.ty_bool {μ : MH} {v : MV} (h : Vl μ v) : isTy μ .bool v = some (isBool v) := by
  cases h with
  | lst a h => show isTyO .bool (μ a) = _; rw [h]; rfl
  | _ => rfl
structure Ks (G : String → Option MV) (Γ : String → Option MFun) : Prop where
  gm : G "MOST" = some (.int 30)
  gs : G "MOST_SIGNS" = some (.int 8)
  gd : G "MOST_DAY" = some (.int 1000000)
  gw : G "MOST_WORTH" = some (.int 1000000000)
  gl : G "LETTERS" = some (.str (S "abcdefghijklmnopqrstuvwxyz"))
  whole : Γ "is_whole" = some Oo
  name : Γ "is_name" = some Ah
  day : Γ "is_day" = some f_is_day
  worth : Γ "is_worth" = some On
  entry : Γ "is_entry" = some Ox
  need : Γ "need_book" = some Ni
  of : Γ "_law_of" = some Jm
  names : Γ "_law_names" = some Zh
  lentry : Γ "_law_entry" = some Zi
  base : Γ "_law_base" = some J0
  book : Γ "_law_book" = some Uo
  ref : Γ "_law_refused" = some U7
  spoilt : Γ "_law_spoilt" = some V8
  law : Γ "law" = some f_law
section
variable {μ : MH} {a b : Int} {x y : Str}
theorem c_leT : cmpM .le μ (.int a) (.int b) = some (decide (a ≤ b)) := rfl
end
section
variable {d : Nat} {fz : List Addr} {Q : MQ} {μ : MH}
theorem Yq (K : Ks G Γ) {v : MV} (hd : 1 ≤ d) (hv : Vl μ v) (h : Q (.bool (isInt v)) μ) : calls G Γ d "is_whole" [v] fz Q X0 μ := by
  have e1 := hv.ty_int
  have e2 := hv.ty_bool
  cases q : isBool v with
  | true =>
    have : isInt v = false := by cases v <;> first | rfl | (cases q; done)
    rw [this] at h e1; rw [q] at e1 e2
    exact Xx K.whole rfl hd (seq ⟨_, rfl, true, e1, true, rfl, Y9 ⟨_, rfl, true, e2, true, rfl, h⟩⟩)
  | false =>
    rw [q] at e1 e2; rw [Bool.or_false] at e1
    cases q' : isInt v with
    | true => rw [q'] at e1 h; exact Xx K.whole rfl hd (seq ⟨_, rfl, true, e1, true, rfl, Y9 ⟨_, rfl, false, e2, false, rfl, h⟩⟩)
    | false => rw [q'] at e1 h; exact Xx K.whole rfl hd (seq ⟨_, rfl, false, e1, false, rfl, Yw h⟩)
theorem int_of {v : MV} (h : isInt v = true) : ∃ i, v = .int i := by cases v <;> first | exact ⟨_, rfl⟩ | (cases h; done)
theorem B0 {v : MV} (h : isInt v = false) (lo hi : Int) : wholeP v lo hi = false := by cases v <;> first | rfl | (cases h; done)
theorem chain_ev {Φ : CallSpec} {vars : MVars} {es : ME} {lo hi i : Int} {k : Nat} (hv : vars k = some (.int i)) (he : ∀ Q : MQ, Q (.int hi) μ → ev G Φ X0 es fz vars Q μ) (h : Q (.bool (wholeP (.int i) lo hi)) μ) : evCmp G Φ X0 [.var k, es] [.le, .le] (.int lo) fz vars Q μ := by
  rw [Q0]
  refine ⟨_, hv, decide (lo ≤ i), rfl, ?_⟩
  change Q (.bool (decide (lo ≤ i) && decide (i ≤ hi))) μ at h
  by_cases q : lo ≤ i
  · rw [if_pos (decide_eq_true q), Q3]
    rw [decide_eq_true q, Bool.true_and] at h
    exact he _ ⟨_, rfl, h⟩
  · rw [if_neg (by rw [decide_eq_false q]; exact Bool.false_ne_true)]
    rw [decide_eq_false q, Bool.false_and] at h
    exact h
theorem Nc (K : Ks G Γ) {v : MV} (hd : 2 ≤ d) (hv : Vl μ v) (h : Q (.bool (wholeP v 0 1000000)) μ) : calls G Γ d "is_day" [v] fz Q X0 μ := by
  refine Xx K.day rfl (by first|exact dn hd rfl|exact dl hd rfl|omega) (seq ?_)
  refine ⟨_, rfl, Yq K (by first|exact dn hd rfl|exact dl hd rfl|omega) hv ⟨_, rfl, ?_⟩⟩
  cases q : isInt v with
  | false => rw [B0 q] at h; exact Yw h
  | true =>
    obtain ⟨i, rfl⟩ := int_of q
    exact Y9 (chain_ev rfl (fun Q hq => ⟨_, K.gd, hq⟩) h)
theorem Pn (K : Ks G Γ) {v : MV} (hd : 2 ≤ d) (hv : Vl μ v) (h : Q (.bool (wholeP v (-1000000000) 1000000000)) μ) : calls G Γ d "is_worth" [v] fz Q X0 μ := by
  refine Xx K.worth rfl (by first|exact dn hd rfl|exact dl hd rfl|omega) (seq ?_)
  refine ⟨_, rfl, Yq K (by first|exact dn hd rfl|exact dl hd rfl|omega) hv ⟨_, rfl, ?_⟩⟩
  cases q : isInt v with
  | false => rw [B0 q] at h; exact Yw h
  | true =>
    obtain ⟨i, rfl⟩ := int_of q
    exact Y9 ⟨_, K.gw, chain_ev rfl (fun Q hq => ⟨_, K.gw, hq⟩) h⟩
theorem chars_len {x : Str} (h : x.length ≤ 100) : fits (chars x).length := by
  unfold chars
  rw [List.length_map, ← Jw]; exact fit (by first|exact dn hd rfl|exact dl hd rfl|omega)
theorem sign_in {c : Nat} {y : Str} : strIn (.str ⟨#[c]⟩) y = some (y.cps.toList.contains c) := by
  show (if (⟨#[c]⟩ : Str).length = 1 then some (y.cps.toList.contains c) else none) = _
  exact if_pos rfl
theorem A8 {Φ : CallSpec} {R : MFlow → MVars → MH → Prop} {y : Str} (hg : G "LETTERS" = some (.str y)) : ∀ (cs : List Nat) (V : MVars), (cs.all (fun c => y.cps.toList.contains c) = true → ∀ V', R .next V' μ) → (cs.all (fun c => y.cps.toList.contains c) = false → ∀ V', R (.ret (.bool false)) V' μ) →
    loopM (.one 1) (fun vs F μ => exs G Φ X0 [U8] fz vs F μ) R (cs.map fun c => .str ⟨#[c]⟩) V μ
  | [] => fun V h1 _ => h1 rfl V
  | c :: cs => fun V h1 h2 => by
    rw [List.map_cons, Ju]
    have q' : cmpM .notin μ (.str ⟨#[c]⟩) (.str y) = some (!y.cps.toList.contains c) := by
      show (strIn (.str ⟨#[c]⟩) y).map (!·) = _
      rw [sign_in]; rfl
    refine ⟨_, rfl, seq (Yi (Y2 ⟨_, Xn, _, hg, _, q', ?_⟩))⟩
    rw [List.all_cons] at h1 h2
    cases q : y.cps.toList.contains c with
    | true =>
      rw [q, Bool.true_and] at h1 h2
      exact Yw (A8 hg cs _ h1 h2)
    | false =>
      rw [q, Bool.false_and] at h2
      exact Y9 (seq (Zu (h2 rfl _)))
theorem Uz (K : Ks G Γ) {v : MV} (hd : 1 ≤ d) (hv : Vl μ v) (h : Q (.bool (nameP v)) μ) : calls G Γ d "is_name" [v] fz Q X0 μ := by
  have e := hv.ty_str
  refine Xx K.name rfl hd (seq (Yi (Ye (Y7 (Yr (Y0 rfl ⟨_, e, ?_⟩))))))
  cases q : isStr v with
  | false =>
    have : nameP v = false := by cases v <;> first | rfl | (cases q; done)
    rw [this] at h
    exact Y9 (Y9 (seq (Zu h)))
  | true =>
    obtain ⟨s, rfl⟩ : ∃ s, v = .str s := by cases v <;> first | exact ⟨_, rfl⟩ | (cases q; done)
    cases hv with
    | str _ hok hl =>
    refine Yw (Ze (Y7 (evB_cmp2 (Jg (Y0 rfl ⟨fit (by first|exact dn hd rfl|exact dl hd rfl|omega), decide ((1 : Int) ≤ s.length), rfl, ?_⟩)))))
    change Q (.bool (decide (1 ≤ s.length) && decide (s.length ≤ 8) && s.cps.toList.all fun c => (S "abcdefghijklmnopqrstuvwxyz").cps.toList.contains c)) μ at h
    by_cases q1 : 1 ≤ s.length
    · rw [if_pos (decide_eq_true (by first|exact dn hd rfl|exact dl hd rfl|omega))]
      refine ⟨_, K.gs, decide ((s.length : Int) ≤ 8), rfl, ?_⟩
      rw [decide_eq_true q1, Bool.true_and] at h
      by_cases q2 : s.length ≤ 8
      · rw [decide_eq_true (show (s.length : Int) ≤ 8 by omega)]
        rw [decide_eq_true q2, Bool.true_and] at h
        refine Yw (J3 (seq (x_for1 (Y0 rfl ⟨.val (.str s), chars s, rfl, rfl, chars_len hl, ?_⟩))))
        refine A8 K.gl s.cps.toList _ (fun q V' => ?_) fun q V' => ?_
        · rw [q] at h; exact seq h
        · rw [q] at h; exact h
      · rw [decide_eq_false (show ¬ (s.length : Int) ≤ 8 by omega)]
        rw [decide_eq_false q2, Bool.false_and] at h
        exact Y9 (seq (Zu h))
    · rw [if_neg (by rw [decide_eq_false (by first|exact dn hd rfl|exact dl hd rfl|omega)]; exact Bool.false_ne_true)]
      rw [decide_eq_false q1, Bool.false_and, Bool.false_and] at h
      exact Y9 (seq (Zu h))
end
end Mine
end
section
namespace Mine
open PySem
variable {G : String → Option MV} {Γ : String → Option MFun}
noncomputable def leP : MV → MV → Bool
  | .int a, .int b => decide (a ≤ b)
  | _, _ => false
noncomputable def entT (s : Str) : List MV → Bool
  | [x4] => if s = S "tell" then wholeP x4 (-1000000000) 1000000000 else nameP x4
  | _ => false
noncomputable def entR (s : Str) (x1 : MV) : List MV → Bool
  | x2 :: x3 :: r => nameP x1 && (wholeP x2 0 1000000 && (wholeP x3 0 1000000 && (leP x2 x3 && (if s = S "clear" then r.isEmpty else entT s r))))
  | _ => false
noncomputable def kindB (s : Str) : Bool := s == S "tell" || (s == S "clear" || s == S "like")
noncomputable def entL : List MV → Bool
  | .str s :: x1 :: r => if s = S "undo" then r.isEmpty && wholeP x1 1 1000000000000000000000000000000 else kindB s && entR s x1 r
  | _ => false
noncomputable def entP : MV → Bool
  | .tup l => entL l
  | _ => false
inductive En (μ : MH) : MV → Prop
  | tup (l : List MV) : l.length ≤ 50 → (∀ x ∈ l, Vl μ x) → En μ (.tup l)
  | lst (a : Addr) (l : List MV) : μ a = some (.list l) → En μ (.ref a)
  | one (v : MV) : (∀ l, v ≠ .tup l) → Vl μ v → En μ v
theorem En.ext {μ μ' : MH} (x : Ext μ μ') {v : MV} (h : En μ v) : En μ' v := by
  cases h with
  | tup l h1 h2 => exact .tup l h1 fun y hy => (h2 y hy).ext x
  | lst a l h => exact .lst a l (x _ _ h)
  | one v h1 h2 => exact .one v h1 (h2.ext x)
theorem En.not_tup {μ : MH} {v : MV} (h : En μ v) (hn : ∀ l, v ≠ .tup l) : isTy μ .tuple v = some false ∧ entP v = false := by
  cases h with
  | tup l _ _ => exact absurd rfl (hn l)
  | lst a l h => exact ⟨by show isTyO .tuple (μ a) = _; rw [h]; rfl, rfl⟩
  | one v h1 h2 =>
    cases h2 with
    | tup => exact absurd rfl (hn _)
    | lst a h => exact ⟨by show isTyO .tuple (μ a) = _; rw [h]; rfl, rfl⟩
    | _ => exact ⟨rfl, rfl⟩
section
variable {μ : MH} {l : List MV}
theorem ixn {k : Nat} {v : MV} (hl : l.length ≤ 100) (h : l[k]? = some v) : idxM μ (.tup l) (.int (k : Int)) = some v := by
  rw [i_tup (by first|exact dn hd rfl|exact dl hd rfl|exact Nat.le_trans (by assumption) (by decide))]
  unfold atI
  rw [if_pos (Int.natCast_nonneg k)]; exact h
end
theorem cmp_s {μ : MH} {s : Str} {w : String} (h : PyData.strOk s = true) (hw : PyData.strOk (S w) = true) : cmpM .eq μ (.str s) (.str (Str.ofString w)) = some (s == S w) := Jq h hw
theorem in3 {μ : MH} {s : Str} (h : PyData.strOk s = true) : cmpM .notin μ (.str s) (.tup [.str (S "tell"), .str (S "clear"), .str (S "like")]) = some (!kindB s) := by
  have ht : deep μ 9 (.tup [.str (S "tell"), .str (S "clear"), .str (S "like")]) = some (.tuple [.str (S "tell"), .str (S "clear"), .str (S "like")]) := by simp [deep, List.mapM_cons, List.mapM_nil, Za, Yp, Uv]
  have hs : deep μ 9 (.str s) = some (.str s) := by simp [deep, h]
  show (anyT (deep μ 9 (.tup [.str (S "tell"), .str (S "clear"), .str (S "like")])) (deep μ 9 (.str s))).map (!·) = _
  rw [ht, hs]
  show some (!((S "tell" == s) || ((S "clear" == s) || ((S "like" == s) || false)))) = _
  unfold kindB
  rw [Bool.or_false, BEq.comm (a := S "tell"), BEq.comm (a := S "clear"), BEq.comm (a := S "like")]
theorem int_eq {μ : MH} {a b : Int} : cmpM .eq μ (.int a) (.int b) = some (a == b) := Xr
theorem tst {A B : Prop} {t : Bool} (h1 : t = true → A) (h2 : t = false → B) : if t = true then A else B := by
  cases t with
  | true => exact h1 rfl
  | false => exact h2 rfl
section
variable {d : Nat} {fz : List Addr} {Q : MQ} {μ : MH}
theorem Ps {v : MV} (h : wholeP v 0 1000000 = true) : ∃ i, v = .int i ∧ 0 ≤ i ∧ i ≤ 1000000 := by
  cases v with
  | int i =>
    change (decide (0 ≤ i) && decide (i ≤ 1000000)) = true at h
    simp only [Bool.and_eq_true, decide_eq_true_eq] at h
    exact ⟨i, rfl, h⟩
  | _ => cases h
theorem Po (K : Ks G Γ) {v : MV} (hd : 3 ≤ d) (hv : En μ v) (h : Q (.bool (entP v)) μ) : calls G Γ d "is_entry" [v] fz Q X0 μ := by
  refine Xx K.entry rfl (by first|exact dn hd rfl|exact dl hd rfl|omega) ?_
  show exs G (calls G Γ (d - 1)) X0 [Vi, Vh, Vg, Vf, Ve, Vd, Vc, Vb] _ _ _ _
  by_cases ht : ∃ l, v = .tup l
  case neg =>
    obtain ⟨e1, e2⟩ := hv.not_tup fun l e => ht ⟨l, e⟩
    rw [e2] at h
    exact seq (Yi (Ye (Y7 (Yr (Y0 rfl ⟨false, e1, Y9 (Y9 (seq (Zu h)))⟩)))))
  obtain ⟨l, rfl⟩ := ht
  obtain ⟨hl, hvl⟩ : l.length ≤ 50 ∧ ∀ x ∈ l, Vl μ x := by
    cases hv with
    | tup l h1 h2 => exact ⟨h1, h2⟩
    | one _ h1 _ => exact absurd rfl (h1 l)
  change Q (.bool (entL l)) μ at h
  refine seq (Yi (Ye (Y7 (Yr (Y0 rfl ⟨true, rfl, Yw (Ye (Y2 (Jg (Y0 rfl ⟨fit (by first|exact dn hd rfl|exact dl hd rfl|exact Nat.le_trans (by assumption) (by decide)), _, Xf, ?_⟩))))⟩)))))
  match l, hl, hvl, h with
  | [], hl, hvl, h => exact Y9 (Y9 (seq (Zu h)))
  | [x0], hl, hvl, h =>
    have : entL [x0] = false := by cases x0 <;> rfl
    rw [this] at h
    exact Y9 (Y9 (seq (Zu h)))
  | x0 :: x1 :: r, hl, hvl, h =>
    have hL : (x0 :: x1 :: r).length ≤ 100 := by exact Nat.lt_of_lt_of_le (by assumption) (by decide)
    rw [decide_eq_false (by simp only [List.length_cons]; lia)]
    have v0 := hvl x0 (.head _)
    have v1 := hvl x1 (.tail _ (.head _))
    refine Yw (Ze (Y7 (Yr (Jo rfl (ixn (k := 0) hL rfl) ⟨_, v0.ty_str, ?_⟩))))
    cases q0 : isStr x0 with
    | false =>
      have : entL (x0 :: x1 :: r) = false := by cases x0 <;> first | rfl | (cases q0; done)
      rw [this] at h
      exact Y9 (seq (Zu h))
    | true =>
    obtain ⟨s, rfl⟩ : ∃ s, x0 = .str s := by cases x0 <;> first | exact ⟨_, rfl⟩ | (cases q0; done)
    obtain ⟨hok, hsl⟩ : PyData.strOk s = true ∧ s.length ≤ 100 := by cases v0 with | str _ a b => exact ⟨a, b⟩
    refine Yw (J3 (seq (Yi (Y2 (Jo rfl (ixn (k := 0) hL rfl) ⟨_, cmp_s hok Zo, tst (fun q => ?_) fun q => ?_⟩)))))
    · have q := eq_of_beq q
      have e : entL (.str s :: x1 :: r) = (r.isEmpty && wholeP x1 1 1000000000000000000000000000000) := if_pos q
      rw [e] at h
      refine seq (Zu ?_)
      refine ⟨_, rfl, fit (by first|exact dn hd rfl|exact dl hd rfl|exact Nat.lt_of_lt_of_le (by assumption) (by decide)), _, int_eq, _, rfl, tst (fun q1 => ?_) fun q1 => ?_⟩
      · have : r = [] := by
          have := eq_of_beq q1
          simp only [List.length_cons] at this
          exact List.eq_nil_of_length_eq_zero (by first|exact dn hd rfl|exact dl hd rfl|lia)
        subst this
        refine Jo rfl (ixn (k := 1) hL rfl) (Yq K (by first|exact dn hd rfl|exact dl hd rfl|omega) v1 ⟨_, rfl, tst (fun q2 => ?_) fun q2 => ?_⟩)
        · obtain ⟨i, rfl⟩ := int_of q2
          have hi : i ≤ 1000000000000000000000000000000 := by cases v1 with | int _ a => exact a
          refine ⟨_, rfl, _, ixn (k := 1) hL rfl, _, Xi, ?_⟩
          have : wholeP (.int i) 1 1000000000000000000000000000000 = decide (i ≥ 1) := by
            show (decide (1 ≤ i) && decide (i ≤ 1000000000000000000000000000000)) = decide (1 ≤ i)
            rw [decide_eq_true hi, Bool.and_true]
          rw [this] at h
          exact h
        · rw [B0 q2, Bool.and_false] at h; rw [q2]; exact h
      · have : r.isEmpty = false := by
          cases r with
          | nil => cases q1
          | cons _ _ => rfl
        rw [this, Bool.false_and] at h
        rw [q1]; exact h
    have q : ¬ s = S "undo" := fun e => by rw [e, beq_self_eq_true] at q; cases q
    have e : entL (.str s :: x1 :: r) = (kindB s && entR s x1 r) := if_neg q
    rw [e] at h
    (try dsimp only [kr0])
    refine J3 (seq (Yi (Ye (Y2 (Jo rfl (ixn (k := 0) hL rfl) ⟨fit (lb rfl), _, in3 hok, ?_⟩)))))
    cases qk : kindB s with
    | false => rw [qk, Bool.false_and] at h; exact Y9 (Y9 (seq (Zu h)))
    | true =>
    rw [qk, Bool.true_and] at h
    refine Yw (Ze (Y2 (Jg (Y0 rfl ⟨fit (by first|exact dn hd rfl|exact dl hd rfl|exact Nat.lt_of_lt_of_le (by assumption) (by decide)), _, Xf, ?_⟩))))
    match r, hl, hvl, h, hL with
    | [], hl, hvl, h, hL => exact Y9 (seq (Zu h))
    | [_], hl, hvl, h, hL => exact Y9 (seq (Zu h))
    | x2 :: x3 :: r, hl, hvl, h, hL =>
      rw [decide_eq_false (by simp only [List.length_cons]; lia)]
      have v2 := hvl x2 (.tail _ (.tail _ (.head _)))
      have v3 := hvl x3 (.tail _ (.tail _ (.tail _ (.head _))))
      change Q (.bool (nameP x1 && (wholeP x2 0 1000000 && (wholeP x3 0 1000000 && (leP x2 x3 && (if s = S "clear" then r.isEmpty else entT s r)))))) μ at h
      refine Yw (J3 (seq (Yi (Ye (Y7 (Jp (Jo rfl (ixn (k := 1) hL rfl) (Uz K (by first|exact dn hd rfl|exact dl hd rfl|omega) v1 ⟨_, rfl, ?_⟩))))))))
      cases qn' : nameP x1 with
      | false => rw [qn', Bool.false_and] at h; exact Y9 (Y9 (seq (Zu h)))
      | true =>
      rw [qn', Bool.true_and] at h
      refine Yw (Ye (Y7 (Jp (Jo rfl (ixn (k := 2) hL rfl) (Nc K (by first|exact dn hd rfl|exact dl hd rfl|omega) v2 ⟨_, rfl, ?_⟩)))))
      cases q2 : wholeP x2 0 1000000 with
      | false => rw [q2, Bool.false_and] at h; exact Y9 (Y9 (seq (Zu h)))
      | true =>
      rw [q2, Bool.true_and] at h
      refine Yw (Ye (Y7 (Jp (Jo rfl (ixn (k := 3) hL rfl) (Nc K (by first|exact dn hd rfl|exact dl hd rfl|omega) v3 ⟨_, rfl, ?_⟩)))))
      cases q3 : wholeP x3 0 1000000 with
      | false => rw [q3, Bool.false_and] at h; exact Y9 (Y9 (seq (Zu h)))
      | true =>
      rw [q3, Bool.true_and] at h
      obtain ⟨i, rfl, _, _⟩ := Ps q2
      obtain ⟨j, rfl, _, _⟩ := Ps q3
      refine Yw (Ze (Y2 (Jo rfl (ixn (k := 2) hL rfl) (Jo rfl (ixn (k := 3) hL rfl) ⟨_, Xg, ?_⟩))))
      by_cases q4 : i ≤ j
      case neg =>
        have : leP (.int i) (.int j) = false := decide_eq_false q4
        rw [this, Bool.false_and] at h
        rw [decide_eq_true (show i > j by lia)]
        exact Y9 (seq (Zu h))
      have : leP (.int i) (.int j) = true := decide_eq_true q4
      rw [this, Bool.true_and] at h
      rw [decide_eq_false (show ¬ i > j by simp [*])]
      refine Yw (J3 (seq (Yi (Y2 (Jo rfl (ixn (k := 0) hL rfl) ⟨_, cmp_s hok Yp, tst (fun q => ?_) fun q => ?_⟩)))))
      · rw [if_pos (eq_of_beq q)] at h
        refine seq (Zu ⟨_, rfl, fit (by first|exact dn hd rfl|exact dl hd rfl|exact Nat.lt_of_lt_of_le (by assumption) (by decide)), _, int_eq, ?_⟩)
        cases r with
        | nil => exact h
        | cons r0 rs =>
          have : ((((MV.str s :: x1 :: .int i :: .int j :: r0 :: rs : List MV).length : Nat) : Int) == 4) = false := by
            rw [beq_eq_false_iff_ne]; simp only [List.length_cons]; lia
          rw [this]; exact h
      rw [if_neg (fun e => by rw [e, beq_self_eq_true] at q; cases q)] at h
      (try dsimp only [kr0])
      refine J3 (seq (Yi (Y2 (Jg (Y0 rfl ⟨fit (by first|exact dn hd rfl|exact dl hd rfl|exact Nat.lt_of_lt_of_le (by assumption) (by decide)), _, Xs, ?_⟩)))))
      match r, hl, hvl, h, hL with
      | [], hl, hvl, h, hL => exact Y9 (seq (Zu h))
      | _ :: _ :: _, hl, hvl, h, hL =>
        refine tst (fun _ => seq (Zu h)) fun q5 => ?_
        simp only [List.length_cons, Bool.not_eq_false'] at q5
        have := eq_of_beq q5
        lia
      | [x4], hl, hvl, h, hL =>
        have v4 := hvl x4 (.tail _ (.tail _ (.tail _ (.tail _ (.head _)))))
        refine Yw (J3 (seq (Yi (Y2 (Jo rfl (ixn (k := 0) hL rfl) ⟨_, cmp_s hok Za, tst (fun q => ?_) fun q => ?_⟩)))))
        · change Q (.bool (if s = S "tell" then wholeP x4 (-1000000000) 1000000000 else nameP x4)) μ at h
          rw [if_pos (eq_of_beq q)] at h
          exact seq (Zu (Vj (Jo rfl (ixn (k := 4) hL rfl) (Pn K (by first|exact dn hd rfl|exact dl hd rfl|omega) v4 h))))
        · change Q (.bool (if s = S "tell" then wholeP x4 (-1000000000) 1000000000 else nameP x4)) μ at h
          rw [if_neg (fun e => by rw [e, beq_self_eq_true] at q; cases q)] at h
          exact J3 (seq (Zu (Vj (Jo rfl (ixn (k := 4) hL rfl) (Uz K (by first|exact dn hd rfl|exact dl hd rfl|omega) v4 h)))))
end
end Mine
end
section
namespace Mine
open PySem
variable {G : String → Option MV} {Γ : String → Option MFun}
noncomputable def undoOk (k : Int) : MV → Bool
  | .tup (.str s :: .int j :: _) => if s = S "undo" then decide (j < k) else true
  | _ => true
noncomputable def goodKV (k : Int) (v : MV) : Bool := decide (1 ≤ k) && (entP v && undoOk k v)
section
variable {d : Nat} {fz : List Addr} {μ : MH} {V : MVars} {F : Bool → MH → Prop} {b : Addr} {k : Int} {u v : MV}
theorem nb2_odd (K : Ks G Γ) (hd : 1 ≤ d) (v1 : V 1 = some u) (hu : Vl μ u) (hn : isInt u = false) (h : F true μ) : evB G (calls G Γ d) nb2 fz V F μ :=
  Ye (Y7 (Jp (Y0 v1 (Yq K hd hu ⟨_, rfl, by rw [hn]; exact Y9 h⟩))))
theorem nb2_ev (K : Ks G Γ) (hd : 3 ≤ d) (v0 : V 0 = some (.ref b)) (v1 : V 1 = some (.int k)) (hk : k ≤ 1000000) (hx : idxM μ (.ref b) (.int k) = some v) (hv : En μ v) (h : F (!(decide (1 ≤ k) && entP v)) μ) : evB G (calls G Γ d) nb2 fz V F μ := by
  refine Ye (Y7 (Jp (Y0 v1 (Yq K (by first|exact dn hd rfl|exact dl hd rfl|omega) (.int k (by first|exact dn hd rfl|exact dl hd rfl|omega)) ⟨true, rfl, Yw (Ye (Y2 ⟨_, v1, _, Xf, ?_⟩))⟩))))
  by_cases q : 1 ≤ k
  · rw [decide_eq_true q, Bool.true_and] at h
    rw [decide_eq_false (show ¬ k < 1 by omega)]
    exact Yw (Ze (Y7 (Jp ⟨_, v0, _, v1, _, hx, Po K hd hv ⟨_, rfl, h⟩⟩)))
  · rw [decide_eq_false q, Bool.false_and] at h
    rw [decide_eq_true (show k < 1 by omega)]
    exact Y9 h
theorem entP_inv (h : entP v = true) : ∃ s x1 r, v = .tup (.str s :: x1 :: r) ∧ (s = S "undo" → ∃ j, x1 = .int j) := by
  cases v with
  | tup l =>
    match l, h with
    | .str s :: x1 :: r, h =>
      refine ⟨s, x1, r, rfl, fun e => ?_⟩
      have h : (if s = S "undo" then r.isEmpty && wholeP x1 1 1000000000000000000000000000000 else kindB s && entR s x1 r) = true := h
      rw [if_pos e, Bool.and_eq_true] at h
      cases x1 with
      | int j => exact ⟨j, rfl⟩
      | _ => cases h.2
  | _ => cases h
theorem nb3_ev {Φ : CallSpec} (v0 : V 0 = some (.ref b)) (v1 : V 1 = some (.int k)) (hx : idxM μ (.ref b) (.int k) = some v) (hv : En μ v) (he : entP v = true) (h : F (!undoOk k v) μ) : evB G Φ nb3 fz V F μ := by
  obtain ⟨s, x1, r, rfl, hs⟩ := entP_inv he
  obtain ⟨hl, hvl⟩ : (.str s :: x1 :: r).length ≤ 50 ∧ ∀ x ∈ (.str s :: x1 :: r), Vl μ x := by
    cases hv with
    | tup l h1 h2 => exact ⟨h1, h2⟩
    | one _ h1 _ => exact absurd rfl (h1 _)
  have hok : PyData.strOk s = true := by cases hvl _ (.head _) with | str _ a b => exact a
  refine Bx (Y2 ⟨_, v0, _, v1, _, hx, _, ixn (k := 0) (by first|exact dn hd rfl|exact dl hd rfl|omega) rfl, _, cmp_s hok Zo, tst (fun q => ?_) fun q => ?_⟩)
  · obtain ⟨j, rfl⟩ := hs (eq_of_beq q)
    have e : undoOk k (.tup (.str s :: .int j :: r)) = decide (j < k) := if_pos (eq_of_beq q)
    rw [e] at h
    refine Oz (Y2 ⟨_, v0, _, v1, _, hx, _, ixn (k := 1) (by first|exact dn hd rfl|exact dl hd rfl|omega) rfl, _, v1, _, Xi, ?_⟩)
    have e' : decide (j ≥ k) = !decide (j < k) := by
      by_cases q : j < k
      · rw [decide_eq_true q, decide_eq_false (by first|exact dn hd rfl|exact dl hd rfl|omega)]; rfl
      · rw [decide_eq_false q, decide_eq_true (by first|exact dn hd rfl|exact dl hd rfl|omega)]; rfl
    rw [e']; exact h
  · have e : undoOk k (.tup (.str s :: x1 :: r)) = true := by
      cases x1 with
      | int j => exact if_neg fun e => by rw [e, beq_self_eq_true] at q; cases q
      | _ => rfl
    rw [e] at h
    exact h
end
noncomputable def Item (μ : MH) (b : Addr) (u : MV) (g : Bool) : Prop := (∃ k v, u = .int k ∧ k ≤ 1000000 ∧ idxM μ (.ref b) (.int k) = some v ∧ En μ v ∧ g = goodKV k v) ∨ (Vl μ u ∧ isInt u = false ∧ g = false)
theorem Pa {d : Nat} {fz held : List Addr} {μ : MH} {b : Addr} (K : Ks G Γ) (hd : 3 ≤ d) (g : MV → Bool) : ∀ (ks : List MV) (V : MVars), V 0 = some (.ref b) → (∀ u ∈ ks, Item μ b u (g u)) → ks.all g = false → loopM (.one 1) (stepM G (calls G Γ d) nb2 nb3 fz held) (fun _ _ _ => False) ks V μ
  | [] => fun V _ _ h => by cases h
  | u :: ks => fun V v0 hi h => by
    rw [Ju]
    replace v0 : setv V 1 u 0 = some (.ref b) := (Xd (by decide)).trans v0
    have v1 : setv V 1 u 1 = some u := Xn
    refine ⟨_, rfl, ?_⟩
    generalize setv V 1 u = V at v0 v1 ⊢
    rcases hi u (.head _) with ⟨k, v, rfl, hk, hx, hv, hg⟩ | ⟨hv, hn, hg⟩
    · refine nb2_ev K hd v0 v1 hk hx hv (tst (fun _ => trivial) fun q => ?_)
      have q : (decide (1 ≤ k) && entP v) = true := by rw [Bool.not_eq_false'] at q; exact q
      obtain ⟨q1, q2⟩ := Bool.and_eq_true_iff.mp q
      refine nb3_ev v0 v1 hx hv q2 (tst (fun _ => trivial) fun q3 => ?_)
      rw [Bool.not_eq_false'] at q3
      have : g (.int k) = true := by rw [hg]; unfold goodKV; rw [q1, q2, q3]; rfl
      rw [List.all_cons, this, Bool.true_and] at h
      exact Pa K hd g ks V v0 (fun u hu => hi u (.tail _ hu)) h
    · exact nb2_odd K (by first|exact dn hd rfl|exact dl hd rfl|omega) v1 hv hn (Y9 trivial)
theorem Ae {d : Nat} {fz : List Addr} {μ : MH} {R : MFlow → MVars → MH → Prop} {b : Addr} (K : Ks G Γ) (hd : 3 ≤ d) (x y : MS) : ∀ (l : List (Int × MV)) (V : MVars), (∀ p ∈ l, p.1 ≤ 1000000 ∧ idxM μ (.ref b) (.int p.1) = some p.2 ∧ En μ p.2 ∧ goodKV p.1 p.2 = true) → V 0 = some (.ref b) → (∀ V', V' 0 = some (.ref b) → R .next V' μ) →
    loopM (.one 1) (fun vs F μ => exs G (calls G Γ d) X0 [.ite nb2 [x] [], .ite nb3 [y] []] fz vs F μ) R (l.map fun p => .int p.1) V μ
  | [] => fun V _ v0 h => h V v0
  | p :: l => fun V hp v0 h => by
    rw [List.map_cons, Ju]
    obtain ⟨hk, hx, hv, hg⟩ := hp p (.head _)
    replace v0 : setv V 1 (.int p.1) 0 = some (.ref b) := (Xd (by decide)).trans v0
    have v1 : setv V 1 (.int p.1) 1 = some (.int p.1) := Xn
    refine ⟨_, rfl, ?_⟩
    generalize setv V 1 (.int p.1) = V at v0 v1 ⊢
    obtain ⟨g1, g2⟩ := Bool.and_eq_true_iff.mp hg
    obtain ⟨g2, g3⟩ := Bool.and_eq_true_iff.mp g2
    refine seq (Yi (nb2_ev K hd v0 v1 hk hx hv ?_))
    rw [g1, g2]
    refine Yw (J3 (seq (Yi (nb3_ev v0 v1 hx hv g2 ?_))))
    rw [g3]
    exact Yw (J3 (Ae K hd x y l V (fun p hp' => hp p (.tail _ hp')) v0 h))
theorem Vn {fz : List Addr} {Q : MQ} {μ : MH} {p : Addr} {l : List (Int × MV)} (h : μ p = some (.idict l)) (hf : l.length ≤ 1000) (hq : Q (.int l.length) μ) : biM fz .len [.ref p] Q μ := by
  show lenO (μ p) fun n => Q (.int n) μ
  rw [h]; exact ⟨fit (by first|exact dn hd rfl|exact dl hd rfl|omega), hq⟩
theorem Nt {μ : MH} {p : Addr} {l : List (Int × MV)} (h : μ p = some (.idict l)) : isTy μ .dict (.ref p) = some true := by
  show isTyO .dict (μ p) = _
  rw [h]; rfl
structure GL (l : List (Int × MV)) : Prop where
  nodup : (l.map (·.1)).Nodup
  good : ∀ p ∈ l, goodKV p.1 p.2 = true
  en : ∀ p ∈ l, ∀ μ, En μ p.2
  ent : ∀ p ∈ l, EntOk p.2
  rng : ∀ p ∈ l, 1 ≤ p.1 ∧ p.1 ≤ 900
theorem A7 {d : Nat} {fz : List Addr} {Q : MQ} {μ : MH} {b : Addr} {l : List (Int × MV)} (K : Ks G Γ) (hd : 4 ≤ d) (hl : GL l) (hn : l.length ≤ 30) (hb : μ b = some (.idict l)) (h : ∀ c, μ c = none → c ∉ fz → Q (.ref c) (upd μ c (.idict l))) : calls G Γ d "need_book" [.ref b] fz Q X0 μ := by
  refine Xx K.need rfl (by first|exact dn hd rfl|exact dl hd rfl|omega) (seq (Yi (Ye (Y7 (Yr (Y0 rfl ⟨true, Nt hb, Yw (Ze (Y2 (Jg (Y0 rfl (Vn hb (by first|exact dn hd rfl|exact dl hd rfl|omega) ⟨_, K.gm, _, Xg, ?_⟩)))))⟩))))))
  rw [decide_eq_false (show ¬ ((l.length : Int) > 30) by omega)]
  refine Yw (J3 (seq (x_for1 (Y0 rfl ⟨.val (.ref b), l.map fun p => .int p.1, rfl, by simp only [Src.items, items, itemsO, hb], fit (by rw [List.length_map]; omega), ?_⟩))))
  refine Ae K (by first|exact dn hd rfl|exact dl hd rfl|omega) _ _ l _ (fun p hp => ⟨by have := hl.rng p hp; omega, by rw [i_dict hb]; exact Kh hl.nodup hp, hl.en p hp _, hl.good p hp⟩) rfl fun V' v0 => seq ?_
  exact Zu (Jg (Y0 v0 (Ap hb ⟨fit (by first|exact dn hd rfl|exact dl hd rfl|omega), fun c hc hcf => h c hc hcf⟩)))
noncomputable def gO (k : Int) : Option MV → Bool
  | some v => goodKV k v
  | none => false
noncomputable def gAt (l : List (Int × MV)) : MV → Bool
  | .int k => gO k (lookI l k)
  | _ => false
theorem Bg {l : List (Int × MV)} (hn : (l.map (·.1)).Nodup) {p : Int × MV} (hp : p ∈ l) : gAt l (.int p.1) = goodKV p.1 p.2 := by
  show gO p.1 (lookI l p.1) = _
  rw [Kh hn hp]; rfl
noncomputable def Bad (G : String → Option MV) (Γ : String → Option MFun) (d : Nat) (fz : List Addr) (v : MV) (μ : MH) : Prop := evB G (calls G Γ d) nb1 fz (args0 [v]) (fun t μ₁ => if t then True else ∃ src all, mkSrc .plain [v] = some src ∧ src.items μ₁ = some all ∧ fits all.length ∧ loopM (.one 1) (stepM G (calls G Γ d) nb2 nb3 fz src.held) (fun _ _ _ => False) all (args0 [v]) μ₁) μ
section
variable {d : Nat} {fz : List Addr} {μ : MH} {b : Addr} {l : List (Int × MV)} {v : MV}
theorem bad_other (h : isTy μ .dict v = some false) : Bad G Γ d fz v μ :=
  Ye (Y7 (Yr (Y0 rfl ⟨false, h, Y9 (Y9 trivial)⟩)))
theorem bad_dict (K : Ks G Γ) (hd : 3 ≤ d) (hb : μ b = some (.idict l)) (hn : l.length ≤ 1000) (hnd : (l.map (·.1)).Nodup) (hr : ∀ p ∈ l, p.1 ≤ 1000000) (hen : ∀ p ∈ l, En μ p.2) (h : l.length ≤ 30 → ∃ p ∈ l, goodKV p.1 p.2 = false) : Bad G Γ d fz (.ref b) μ := by
  unfold Bad
  refine Ye (Y7 (Yr (Y0 rfl ⟨true, Nt hb, Yw (Ze (Y2 (Jg (Y0 rfl (Vn hb (by first|exact dn hd rfl|exact dl hd rfl|omega) ⟨_, K.gm, _, Xg, tst (fun _ => trivial) fun q => ?_⟩)))))⟩)))
  have q := of_decide_eq_false q
  obtain ⟨p, hp, hg⟩ := h (by first|exact dn hd rfl|exact dl hd rfl|omega)
  refine ⟨.val (.ref b), l.map fun p => .int p.1, rfl, by simp only [Src.items, items, itemsO, hb], fit (by rw [List.length_map]; omega), ?_⟩
  have look : ∀ p ∈ l, idxM μ (.ref b) (.int p.1) = some p.2 := fun p hp => by rw [i_dict hb]; exact Kh hnd hp
  refine Pa K hd (gAt l) _ _ rfl (fun u hu => ?_) ?_
  · obtain ⟨p, hp, rfl⟩ := List.mem_map.mp hu
    exact .inl ⟨p.1, p.2, rfl, hr p hp, look p hp, hen p hp, Bg hnd hp⟩
  · rw [List.all_eq_false]
    refine ⟨_, List.mem_map_of_mem hp, ?_⟩
    rw [Bg hnd hp, hg]; exact Bool.false_ne_true
theorem bad_odict {k : MV} (K : Ks G Γ) (hd : 3 ≤ d) (hb : μ b = some (.odict l k)) (hl : GL l) (hn : l.length ≤ 1000) (hk : Vl μ k) (hi : isInt k = false) : Bad G Γ d fz (.ref b) μ := by
  have ht : isTy μ .dict (.ref b) = some true := by show isTyO .dict (μ b) = _; rw [hb]; rfl
  have hlen : ∀ {Q : MQ}, Q (.int ((l.length + 1 : Nat) : Int)) μ → biM fz .len [.ref b] Q μ := fun {Q} hq => by
    show lenO (μ b) fun n => Q (.int n) μ
    rw [hb]; exact ⟨fit (by first|exact dn hd rfl|exact dl hd rfl|omega), hq⟩
  unfold Bad
  refine Ye (Y7 (Yr (Y0 rfl ⟨true, ht, Yw (Ze (Y2 (Jg (Y0 rfl (hlen ⟨_, K.gm, _, Xg, tst (fun _ => trivial) fun q => ?_⟩)))))⟩)))
  refine ⟨.val (.ref b), (l.map fun p => .int p.1) ++ [k], rfl, by simp only [Src.items, items, itemsO, hb], fit (by rw [List.length_append, List.length_map]; show l.length + 1 ≤ _; omega), ?_⟩
  refine Pa K hd (gAt l) _ _ rfl (fun u hu => ?_) ?_
  · rcases List.mem_append.mp hu with hu | hu
    · obtain ⟨p, hp, rfl⟩ := List.mem_map.mp hu
      refine .inl ⟨p.1, p.2, rfl, by have := hl.rng p hp; omega, ?_, hl.en p hp μ, Bg hl.nodup hp⟩
      show idxO (μ b) (.int p.1) = _
      rw [hb]; exact Kh hl.nodup hp
    · obtain rfl := List.mem_singleton.mp hu
      refine .inr ⟨hk, hi, ?_⟩
      cases u <;> first | rfl | (cases hi; done)
  · rw [List.all_eq_false]
    refine ⟨k, List.mem_append_right _ (.head _), ?_⟩
    cases k <;> first | exact Bool.false_ne_true | (cases hi; done)
end
end Mine
end
section
namespace Mine
open PySem
variable {G : String → Option MV} {Γ : String → Option MFun}
inductive Spoilt (l : List (Int × MV)) (b : Addr) (μ : MH) : Bool → MV → Prop
  | same : μ b = some (.idict l) → Spoilt l b μ false (.ref b)
  | bad (k : Int) (v : MV) : μ b = some (.idict (putI l k v)) → En μ v → goodKV k v = false → k ≤ 1000000 → Spoilt l b μ true (.ref b)
  | odd (k : MV) : μ b = some (.odict l k) → Vl μ k → isInt k = false → Spoilt l b μ true (.ref b)
  | other (v : MV) : isTy μ .dict v = some false → Spoilt l b μ true v
theorem vls {μ : MH} {s nm : String} {i j k : Int} (h1 : PyData.strOk (S s) = true ∧ (S s).length ≤ 100) (h2 : PyData.strOk (S nm) = true ∧ (S nm).length ≤ 100) (hi : i ≤ 1000 ∧ j ≤ 1000 ∧ k ≤ 1000) : En μ (.tup [.str (S s), .str (S nm), .int i, .int j, .int k]) :=
  .tup _ (lb rfl) fun x hx => by
    simp only [List.mem_cons, List.not_mem_nil, or_false] at hx
    rcases hx with rfl | rfl | rfl | rfl | rfl
    · exact .str _ h1.1 h1.2
    · exact .str _ h2.1 h2.2
    · exact .int _ (by first|exact dn hd rfl|exact dl hd rfl|omega)
    · exact .int _ (by first|exact dn hd rfl|exact dl hd rfl|omega)
    · exact .int _ (by first|exact dn hd rfl|exact dl hd rfl|omega)
theorem V5 {k : Int} {v : MV} (h : entP v = false) : goodKV k v = false := by unfold goodKV; rw [h, Bool.false_and, Bool.and_false]
theorem goodKV_k {k : Int} {v : MV} (h : ¬ 1 ≤ k) : goodKV k v = false := by unfold goodKV; rw [decide_eq_false h, Bool.false_and]
theorem ok_a : PyData.strOk (S "a") = true ∧ (S "a").length ≤ 100 := by decide +kernel
theorem ok_A : PyData.strOk (S "A") = true ∧ (S "A").length ≤ 100 := by decide +kernel
theorem Nu : PyData.strOk (S "tell") = true ∧ (S "tell").length ≤ 100 := by decide +kernel
theorem J2 : PyData.strOk (S "clear") = true ∧ (S "clear").length ≤ 100 := by decide +kernel
theorem Us : PyData.strOk (S "undo") = true ∧ (S "undo").length ≤ 100 := by decide +kernel
theorem one_ok : PyData.strOk (S "1") = true ∧ (S "1").length ≤ 100 := by decide +kernel
theorem atL {μ : MH} {p : Addr} {l : List MV} {k : Int} (hp : μ p = some (.list l)) (hl : l.length ≤ 1000) (h0 : 0 ≤ k) (h1 : k < l.length) {Q : MV → Prop} (h : ∀ v ∈ l, Q v) : ∃ v, idxM μ (.ref p) (.int k) = some v ∧ Q v := by
  have hk : k.toNat < l.length := by omega
  refine ⟨l[k.toNat], ?_, h _ (List.getElem_mem hk)⟩
  rw [Kk hp (by first|exact dn hd rfl|exact dl hd rfl|omega), U1 h0]
  exact List.getElem?_eq_getElem hk
theorem set_o {μ : MH} {fz : List Addr} {a : Addr} {l : List (Int × MV)} {k v : MV} {Q : MH → Prop} (h : μ a = some (.idict l)) (hf : a ∉ fz) (hl : fits l.length) (hi : isInt k = false) (ho : oddOk l k = true) (hr : ∀ p ∈ l, 0 ≤ p.1 ∧ p.1 ≤ 10000) (hq : Q (upd μ a (.odict l k))) : setM fz (.ref a) k v Q μ := by
  refine ⟨hf, ?_⟩
  rw [h]
  cases k <;> first | exact ⟨⟨ho, hr⟩, hl, hq⟩ | (cases hi; done)
section
variable {d : Nat} {fz : List Addr} {Q : MQ} {μ : MH} {b : Addr} {l : List (Int × MV)} {cell : Int}
abbrev oddT : MV := .tup [.str (S "tell"), .str (S "a"), .int 3, .int 4, .int 1]
theorem oddT_en {μ : MH} : En μ oddT := vls Nu ok_a (by decide)
theorem spoilt_spec (K : Ks G Γ) (hd : 1 ≤ d) (hl : GL l) (hn : l.length ≤ 1000) (hb : μ b = some (.idict l)) (hbf : b ∉ fz) (h1 : cell.fmod 8 = 2 → (cell.fdiv 8).fmod 7 = 2 → (l.any fun p => decide (p.1 = 1)) = false)
    (h : ∀ v μ', Spoilt l b μ' (decide (0 < cell.fmod 8) && decide (cell.fmod 8 < 5)) v → Q v μ') : calls G Γ d "_law_spoilt" [.ref b, .int cell] fz Q X0 μ := by
  refine Xx K.spoilt rfl (by first|exact dn hd rfl|exact dl hd rfl|omega) (seq ?_)
  ((try dsimp only [Zz,X6,Qr,Qu,Qs,Qg,Qf,Xa,X7,Qy,Qz,Xj,Qx,X8,X9,Qd,Qq,Qc,Qe,Qv,Xl,Q4,Qp,Qt,Ql,Qb,Qa,Q1,Qh,Q5,Q3,Q0,Q9,Q8,Q7,Q6,Qo,X2,Qm,X3,X4,Qn,args0,Xb,X1,Xf,Xm,Xg,Xi,Qk,X5,Qi,Qj,Qw,Q2,zgz,zgs,zlc,zln,Nat.reduceAdd,kr0,kr1,kl0,kl1,kz0]); (try simp (discharger := decide) only [Zz,X6,Qr,Qu,Qs,Qg,Qf,Xa,X7,Qy,Qz,Xj,Qx,X8,X9,Qd,Qq,Qc,Qe,Qv,Xl,Q4,Qp,Qt,Ql,Qb,Qa,Q1,Qh,Q5,Q3,Q0,Q9,Q8,Q7,Q6,Qo,X2,Qm,X3,X4,Qn,args0,Xb,X1,Xh,Xk,Xc,Xe,Xf,Xm,Xg,Xi,Xr,Xs,Qk,X5,Xn,Xd,Qi,Qj,Qw,Q2,Xu,zoi,zel,zta,zat,zgz,zgs,zlc,zln,Nat.reduceAdd,zza,znt,zcn,MV.int.injEq,kr0,kr1,kl0,kl1,kz0]))
  refine seq ?_
  ((try dsimp only [Zy,X6,Qr,Qu,Qs,Qg,Qf,Xa,X7,Qy,Qz,Xj,Qx,X8,X9,Qd,Qq,Qc,Qe,Qv,Xl,Q4,Qp,Qt,Ql,Qb,Qa,Q1,Qh,Q5,Q3,Q0,Q9,Q8,Q7,Q6,Qo,X2,Qm,X3,X4,Qn,args0,Xb,X1,Xf,Xm,Xg,Xi,Qk,X5,Qi,Qj,Qw,Q2,zgz,zgs,zlc,zln,Nat.reduceAdd,kr0,kr1,kl0,kl1,kz0]); (try simp (discharger := decide) only [Zy,X6,Qr,Qu,Qs,Qg,Qf,Xa,X7,Qy,Qz,Xj,Qx,X8,X9,Qd,Qq,Qc,Qe,Qv,Xl,Q4,Qp,Qt,Ql,Qb,Qa,Q1,Qh,Q5,Q3,Q0,Q9,Q8,Q7,Q6,Qo,X2,Qm,X3,X4,Qn,args0,Xb,X1,Xh,Xk,Xc,Xe,Xf,Xm,Xg,Xi,Xr,Xs,Qk,X5,Xn,Xd,Qi,Qj,Qw,Q2,Xu,zoi,zel,zta,zat,zgz,zgs,zlc,zln,Nat.reduceAdd,zza,znt,zcn,MV.int.injEq,kr0,kr1,kl0,kl1,kz0]))
  have hf8 := fm (a := cell) (b := 8) (by decide)
  generalize cell.fmod 8 = kind at h h1 hf8
  generalize cell.fdiv 8 = more at h1
  refine seq ⟨fit (lb rfl), ?_⟩
  show exs _ _ _ [Kp, Ko, Yl, Yk, Y8] _ (setv _ 4 oddT) _ _
  generalize hV : setv (setv (setv (args0 [.ref b, .int cell]) 2 (.int kind)) 3 (.int more)) 4 oddT = V
  have v0 : V 0 = some (.ref b) := by rw [← hV]; rfl
  have v2 : V 2 = some (.int kind) := by rw [← hV]; rfl
  have v3 : V 3 = some (.int more) := by rw [← hV]; rfl
  have v4 : V 4 = some oddT := by rw [← hV]; rfl
  clear hV
  have hfit : fits l.length := fit (by first|exact dn hd rfl|exact dl hd rfl|omega)
  have c : ∀ {μ : MH} {n : Int} {a r : List MS}, (kind = n → exs G (calls G Γ (d - 1)) X0 a fz V (kr G (calls G Γ (d - 1)) X0 r fz (kz Q)) μ) → (kind ≠ n → exs G (calls G Γ (d - 1)) X0 r fz V (kz Q) μ) → exs G (calls G Γ (d - 1)) X0 (.ite (.cmp (.var 2) [.eq] [.cint n]) a [] :: r) fz V (kz Q) μ := by
    intro μ n a r hy hno
    refine seq (Yi (Y2 ⟨_, v2, _, Xr, tst (fun q => hy (eq_of_beq q)) fun q => J3 (hno fun e => ?_)⟩))
    rw [e, beq_self_eq_true] at q; cases q
  have ret : ∀ {μ' : MH}, Spoilt l b μ' (decide (0 < kind) && decide (kind < 5)) (.ref b) → exs G (calls G Γ (d - 1)) X0 [Y8] fz V (kz Q) μ' := fun hs => seq (Zu (Y0 v0 (h _ _ hs)))
  have no : ∀ {n : Int} {μ : MH} {a r : List MS}, kind ≠ n → exs G (calls G Γ (d - 1)) X0 r fz V (kz Q) μ → exs G (calls G Γ (d - 1)) X0 (.ite (.cmp (.var 2) [.eq] [.cint n]) a [] :: r) fz V (kz Q) μ := fun hne hr => c (fun e => absurd e hne) fun _ => hr
  refine c (fun e1 => ?_) fun n1 => c (fun e2 => ?_) fun n2 => c (fun e3 => ?_) fun n3 => c (fun e4 => ?_) fun n4 => ret ?_
  · subst e1
    refine seq ⟨fit (lb rfl), fit (lb rfl), fit (lb rfl), fun c₁ hc₁ _ => ⟨fit (lb rfl), fun c₂ hc₂ _ => ⟨_, v3, by decide, ?_⟩⟩⟩
    have f4 := fm (a := more) (b := 4) (by decide)
    have hb1 := Ext.upd (o := .list [.str (S "undo"), .int 1]) hc₁ _ _ hb
    have hb2 := fun o => Ext.upd (o := o) hc₂ _ _ hb1
    refine atL Xo ?_ f4.1 ?_ fun v hv => ⟨_, v0, Ji (hb2 _) hbf hfit (seqk ?_)⟩
    · exact lb rfl
    · exact f4.2
    have hc1b : c₁ ≠ b := fun q => by rw [q, hb] at hc₁; cases hc₁
    refine no (by decide) (no (by decide) (no (by decide) (ret (.bad 100 v Xo ?_ ?_ (by decide)))))
    all_goals
      simp only [List.mem_cons, List.not_mem_nil, or_false] at hv
      rcases hv with rfl | rfl | rfl | rfl
    · exact vls Nu ok_a (by decide)
    · exact .tup _ (lb rfl) fun x hx => by
        simp only [List.mem_cons, List.not_mem_nil, or_false] at hx
        rcases hx with rfl | rfl | rfl | rfl
        · exact .str _ J2.1 J2.2
        · exact .str _ ok_A.1 ok_A.2
        · exact .int _ (by decide)
        · exact .int _ (by decide)
    · exact .one _ nofun .none
    · exact .lst c₁ [.str (S "undo"), .int 1] ((Yv hc1b).trans (Ext.upd hc₂ _ _ Xo))
    · exact V5 (by decide +kernel)
    · exact V5 (by decide +kernel)
    · exact V5 rfl
    · exact V5 rfl
  · subst e2
    have f7 := fm (a := more) (b := 7) (by decide)
    refine seq ⟨_, v4, _, v0, _, rfl, fit (lb rfl), rfl, ⟨by decide, by decide⟩, _, rfl, fit (lb rfl), fun c₁ hc₁ _ => ⟨_, v3, by decide, ?_⟩⟩
    have hb1 := fun o => Ext.upd (o := o) hc₁ _ _ hb
    have fin : ∀ {μ' : MH}, Spoilt l b μ' true (.ref b) → exs G (calls G Γ (d - 1)) X0 [Yl, Yk, Y8] fz V (kz Q) μ' := fun hs => no (by decide) (no (by decide) (ret hs))
    have at7 : ∀ {n : Nat} {v : MV}, more.fmod 7 = n → ([.int 0, .int (-1), .bool true, .str (S "1"), .none, .tup [.int 1], .int (-(10 ^ (9 : Int).toNat))] : List MV)[n]? = some v → idxM (upd μ c₁ (.list [.int 0, .int (-1), .bool true, .str (S "1"), .none, .tup [.int 1], .int (-(10 ^ (9 : Int).toNat))])) (.ref c₁) (.int (more.fmod 7)) = some v := fun {n v} e hv => by
      rw [Kk Xo (by decide), e, U1 (by first|exact dn hd rfl|exact dl hd rfl|omega)]; exact hv
    have cases7 : more.fmod 7 = (0 : Nat) ∨ more.fmod 7 = (1 : Nat) ∨ more.fmod 7 = (2 : Nat) ∨ more.fmod 7 = (3 : Nat) ∨ more.fmod 7 = (4 : Nat) ∨ more.fmod 7 = (5 : Nat) ∨ more.fmod 7 = (6 : Nat) := by omega
    have int : ∀ {k : Int}, ¬ 1 ≤ k → setM fz (.ref b) (.int k) oddT (fun μ₄ => kr G (calls G Γ (d - 1)) X0 [] fz (kr G (calls G Γ (d - 1)) X0 [Yl, Yk, Y8] fz (kz Q)) .next V μ₄) (upd μ c₁ (.list [.int 0, .int (-1), .bool true, .str (S "1"), .none, .tup [.int 1], .int (-(10 ^ (9 : Int).toNat))])) := fun hk => Ji (hb1 _) hbf hfit (seqk (fin (.bad _ _ Xo oddT_en (goodKV_k hk) (by first|exact dn hd rfl|exact dl hd rfl|omega))))
    have odd : ∀ {k : MV}, isInt k = false → oddOk l k = true → (∀ μ, Vl μ k) → setM fz (.ref b) k oddT (fun μ₄ => kr G (calls G Γ (d - 1)) X0 [] fz (kr G (calls G Γ (d - 1)) X0 [Yl, Yk, Y8] fz (kz Q)) .next V μ₄) (upd μ c₁ (.list [.int 0, .int (-1), .bool true, .str (S "1"), .none, .tup [.int 1], .int (-(10 ^ (9 : Int).toNat))])) := fun hi ho hv => set_o (hb1 _) hbf hfit hi ho (fun p hp => ⟨Int.le_trans (by decide) (hl.rng p hp).1, Int.le_trans (hl.rng p hp).2 (by decide)⟩) (seqk (fin (.odd _ Xo (hv _) hi)))
    rcases cases7 with q | q | q | q | q | q | q
    · exact ⟨_, at7 q rfl, int (by decide)⟩
    · exact ⟨_, at7 q rfl, int (by decide)⟩
    · exact ⟨_, at7 q rfl, odd rfl (by show (true && !(l.any fun p => decide (p.1 = 1))) = true; rw [h1 rfl q]; rfl) fun _ => .bool true⟩
    · exact ⟨_, at7 q rfl, odd rfl rfl fun _ => .str _ one_ok.1 one_ok.2⟩
    · exact ⟨_, at7 q rfl, odd rfl rfl fun _ => .none⟩
    · exact ⟨_, at7 q rfl, odd rfl rfl fun _ => .tup⟩
    · exact ⟨_, at7 q rfl, int (by decide)⟩
  · subst e3
    have f3 := fm (a := more) (b := 3) (by decide)
    refine seq ⟨_, v3, by decide, fit (lb rfl), _, v0, Ji hb hbf hfit (seqk (no (by decide) (ret (.bad 100 _ Xo ?_ ?_ (by decide)))))⟩
    · exact .tup _ (lb rfl) fun x hx => by
        simp only [List.mem_cons, List.not_mem_nil, or_false] at hx
        rcases hx with rfl | rfl
        · exact .str _ Us.1 Us.2
        · exact .int _ (by first|exact dn hd rfl|exact dl hd rfl|omega)
    · have : undoOk 100 (.tup [.str (S "undo"), .int (100 + more.fmod 3)]) = false := by
        show (if S "undo" = S "undo" then decide (100 + more.fmod 3 < 100) else true) = false
        rw [if_pos rfl]; exact decide_eq_false (by first|exact dn hd rfl|exact dl hd rfl|omega)
      unfold goodKV
      rw [this, Bool.and_false, Bool.and_false]
  · subst e4
    have f6 := fm (a := more) (b := 6) (by decide)
    refine seq ⟨fit (lb rfl), fun c₁ hc₁ _ => ⟨_, v4, fit (lb rfl), fit (lb rfl), fun c₂ hc₂ _ => ⟨_, v4, fit (lb rfl), fit (lb rfl), fun c₃ hc₃ _ => ⟨_, v3, by decide, ?_⟩⟩⟩⟩
    refine atL Xo ?_ f6.1 ?_ fun v hv => h _ _ (.other v ?_)
    · exact lb rfl
    · exact f6.2
    simp only [List.mem_cons, List.not_mem_nil, or_false] at hv
    rcases hv with rfl | rfl | rfl | rfl | rfl | rfl
    · rfl
    · show isTyO .dict _ = _
      rw [Ext.upd hc₃ _ _ (Ext.upd hc₂ _ _ Xo)]; rfl
    · show isTyO .dict _ = _
      rw [Ext.upd hc₃ _ _ Xo]; rfl
    · rfl
    · rfl
    · rfl
  · have : (decide (0 < kind) && decide (kind < 5)) = false := by
      by_cases q : 0 < kind
      · rw [decide_eq_false (show ¬ kind < 5 by omega), Bool.and_false]
      · rw [decide_eq_false q, Bool.false_and]
    rw [this]
    exact .same hb
end
end Mine
end
section
namespace Mine
open PySem
variable {G : String → Option MV} {Γ : String → Option MFun}
theorem az_mem {c : Nat} (h : 97 ≤ c ∧ c ≤ 122) : (S "abcdefghijklmnopqrstuvwxyz").cps.toList.contains c = true := by
  have : (S "abcdefghijklmnopqrstuvwxyz").cps.toList = List.range' 97 26 := by decide +kernel
  rw [this, List.contains_iff_mem, List.mem_range'_1]
  omega
theorem Jt {s : Str} (h : GoodN s) : nameP (.str s) = true := by
  show (decide (1 ≤ s.length) && decide (s.length ≤ 8) && s.cps.toList.all fun c => (S "abcdefghijklmnopqrstuvwxyz").cps.toList.contains c) = true
  rw [decide_eq_true (Nat.le_trans (by decide) h.1), decide_eq_true h.2.1, List.all_eq_true.mpr fun c hc => az_mem (h.2.2 c hc)]; rfl
theorem Nq {i lo hi : Int} (h0 : lo ≤ i) (h1 : i ≤ hi) : wholeP (.int i) lo hi = true := by
  show (decide (lo ≤ i) && decide (i ≤ hi)) = true
  rw [decide_eq_true h0, decide_eq_true h1]; rfl
theorem Bz {s : Str} {nm : Str} {lo hi : Int} {r : List MV} (hs : s ≠ S "undo") (hk : kindB s = true) (hn : nameP (.str nm) = true) (h0 : 0 ≤ lo) (h1 : lo ≤ hi) (h2 : hi ≤ 1000000) (hr : (if s = S "clear" then r.isEmpty else entT s r) = true) : entP (.tup (.str s :: .str nm :: .int lo :: .int hi :: r)) = true := by
  show (if s = S "undo" then ((.int lo :: .int hi :: r : List MV).isEmpty && wholeP (.str nm) 1 1000000000000000000000000000000) else kindB s && (nameP (.str nm) && (wholeP (.int lo) 0 1000000 && (wholeP (.int hi) 0 1000000 && (decide (lo ≤ hi) && (if s = S "clear" then r.isEmpty else entT s r)))))) = true
  rw [if_neg hs, hk, hn, Nq h0 (by first|exact dn hd rfl|exact dl hd rfl|omega), Nq (by first|exact dn hd rfl|exact dl hd rfl|omega) h2, decide_eq_true h1, hr]; rfl
theorem Nr {μ : MH} {s : Str} (h : GoodN s) : Vl μ (.str s) := .str s h.ok (by have := h.2.1; omega)
theorem en4 {μ : MH} {a b c e : MV} (ha : Vl μ a) (hb : Vl μ b) (hc : Vl μ c) (he : Vl μ e) {r : List MV} (hr : ∀ x ∈ r, Vl μ x) (hl : r.length ≤ 1) : En μ (.tup (a :: b :: c :: e :: r)) :=
  .tup _ (by simp only [List.length_cons]; omega) fun x hx => by
    simp only [List.mem_cons] at hx
    rcases hx with rfl | rfl | rfl | rfl | hx
    · exact ha
    · exact hb
    · exact hc
    · exact he
    · exact hr x hx
theorem good_e {names : List Str} {k : Int} {v : MV} (hn : ∀ nm ∈ names, GoodN nm) (hk : 1 ≤ k ∧ k ≤ 1000) (h : GoodE names k v) : goodKV k v = true ∧ ∀ μ, En μ v := by
  have f : ∀ {v : MV}, entP v = true → undoOk k v = true → goodKV k v = true := fun h1 h2 => by unfold goodKV; rw [decide_eq_true hk.1, h1, h2]; rfl
  have like_ok : PyData.strOk (S "like") = true ∧ (S "like").length ≤ 100 := by decide +kernel
  rcases h with ⟨j, rfl, h1, h2⟩ | ⟨nm, lo, hi, rfl, h1, h2, h3, h4⟩ | ⟨nm, lo, hi, nm', rfl, h1, h1', h2, h3, h4⟩ | ⟨nm, lo, hi, w, rfl, h1, h2, h3, h4, h5, h6⟩
  · refine ⟨f ?_ ?_, fun μ => .tup _ (lb rfl) fun x hx => ?_⟩
    · show (if S "undo" = S "undo" then (true && wholeP (.int j) 1 1000000000000000000000000000000) else (kindB (S "undo") && entR (S "undo") (.int j) [])) = true
      rw [if_pos rfl, Nq h1 (by first|exact dn hd rfl|exact dl hd rfl|omega)]; rfl
    · show (if S "undo" = S "undo" then decide (j < k) else true) = true
      rw [if_pos rfl]; exact decide_eq_true h2
    · simp only [List.mem_cons, List.not_mem_nil, or_false] at hx
      rcases hx with rfl | rfl
      · exact .str _ Us.1 Us.2
      · exact .int _ (by first|exact dn hd rfl|exact dl hd rfl|omega)
  · refine ⟨f (Bz (by decide +kernel) (by decide +kernel) (Jt (hn _ h1)) h2 h3 h4 (if_pos rfl)) rfl, fun μ => ?_⟩
    exact en4 (.str _ J2.1 J2.2) (Nr (hn _ h1)) (.int _ (by first|exact dn hd rfl|exact dl hd rfl|omega)) (.int _ (by first|exact dn hd rfl|exact dl hd rfl|omega)) (fun x hx => by cases hx) (lb rfl)
  · refine ⟨f (Bz (by decide +kernel) (by decide +kernel) (Jt (hn _ h1)) h2 h3 h4 ?_) rfl, fun μ => ?_⟩
    · rw [if_neg (by decide +kernel)]
      show (if S "like" = S "tell" then wholeP (.str nm') (-1000000000) 1000000000 else nameP (.str nm')) = true
      rw [if_neg (by decide +kernel)]; exact Jt (hn _ h1')
    · exact en4 (.str _ like_ok.1 like_ok.2) (Nr (hn _ h1)) (.int _ (by first|exact dn hd rfl|exact dl hd rfl|omega)) (.int _ (by first|exact dn hd rfl|exact dl hd rfl|omega)) (fun x hx => by rw [List.mem_singleton.mp hx]; exact Nr (hn _ h1')) (lb rfl)
  · refine ⟨f (Bz (by decide +kernel) (by decide +kernel) (Jt (hn _ h1)) h2 h3 h4 ?_) rfl, fun μ => ?_⟩
    · rw [if_neg (by decide +kernel)]
      show (if S "tell" = S "tell" then wholeP (.int w) (-1000000000) 1000000000 else nameP (.int w)) = true
      rw [if_pos rfl]; exact Nq h5 h6
    · exact en4 (.str _ Nu.1 Nu.2) (Nr (hn _ h1)) (.int _ (by first|exact dn hd rfl|exact dl hd rfl|omega)) (.int _ (by first|exact dn hd rfl|exact dl hd rfl|omega)) (fun x hx => by rw [List.mem_singleton.mp hx]; exact .int _ (by first|exact dn hd rfl|exact dl hd rfl|omega)) (lb rfl)
theorem B2 {l : List (Int × MV)} {k : Int} {v : MV} {p : Int × MV} (h : p ∈ putI l k v) : p = (k, v) ∨ p ∈ l := by
  unfold putI at h
  split at h
  · obtain ⟨q, hq, e⟩ := List.mem_map.mp h
    by_cases c : q.1 = k
    · rw [if_pos c, c] at e; exact .inl e.symm
    · rw [if_neg c] at e; exact .inr (e ▸ hq)
  · rcases List.mem_append.mp h with h | h
    · exact .inr h
    · exact .inl (List.mem_singleton.mp h)
theorem put_mem {l : List (Int × MV)} {k : Int} {v : MV} : (k, v) ∈ putI l k v := by
  unfold putI
  split
  · rename_i h
    obtain ⟨q, hq, e⟩ := List.any_eq_true.mp h
    have e := of_decide_eq_true e
    exact List.mem_map.mpr ⟨q, hq, by rw [if_pos e, e]⟩
  · exact List.mem_append_right _ (.head _)
theorem GL.put {l : List (Int × MV)} {k : Int} {v : MV} (h : GL l) (h1 : goodKV k v = true) (h2 : ∀ μ, En μ v) (h3 : EntOk v) (h4 : 1 ≤ k ∧ k ≤ 900) : GL (putI l k v) := by
  refine ⟨put_keys h.nodup, fun p hp => ?_, fun p hp => ?_, fun p hp => ?_, fun p hp => ?_⟩ <;> rcases B2 hp with rfl | hp
  · exact h1
  · exact h.good p hp
  · exact h2
  · exact h.en p hp
  · exact h3
  · exact h.ent p hp
  · exact h4
  · exact h.rng p hp
theorem GL.del {l : List (Int × MV)} {k : Int} (h : GL l) : GL (delI l k) := by
  have s : ∀ p ∈ delI l k, p ∈ l := fun p hp => (List.mem_filter.mp hp).1
  exact ⟨List.Sublist.nodup (List.Sublist.map _ List.filter_sublist) h.nodup, fun p hp => h.good p (s p hp), fun p hp => h.en p (s p hp), fun p hp => h.ent p (s p hp), fun p hp => h.rng p (s p hp)⟩
theorem GL.of {ns : List Int} {kvs : List (Int × MV)} (h : BookOk ns 12 kvs) : GL kvs ∧ kvs.length ≤ 14 := by
  obtain ⟨f1, f2, f3, f4⟩ := P8 h (by decide)
  obtain ⟨names, rows, cut, h3, hg, hk, he, hc, rfl, _⟩ := h
  have hm : ∀ p ∈ rows.drop cut ++ rows.take cut, p ∈ rows := fun p hp => by
    rcases List.mem_append.mp hp with hp | hp
    · exact List.mem_of_mem_drop hp
    · exact List.mem_of_mem_take hp
  have hr : ∀ p ∈ rows.drop cut ++ rows.take cut, 1 ≤ p.1 ∧ p.1 ≤ 40 := fun p hp => f4 _ (List.mem_map_of_mem hp)
  exact ⟨⟨f1, fun p hp => (good_e hg (by have := hr p hp; omega) (he p (hm p hp))).1, fun p hp => (good_e hg (by have := hr p hp; omega) (he p (hm p hp))).2, f3, fun p hp => by have := hr p hp; omega⟩, f2⟩
noncomputable def clr (i : Int) : MV := .tup [.str (S "clear"), .str (S "a"), .int i, .int (2 * i)]
theorem GL.clr {l : List (Int × MV)} {i : Int} (h : GL l) (h0 : 0 ≤ i) (h1 : i ≤ 100) : GL (putI l (200 + 3 * i) (clr i)) := by
  refine h.put ?_ (fun μ => ?_) (.inr ⟨S "clear", _, rfl, by decide +kernel, J2.1, lb rfl, ?_⟩) (by first|exact dn hd rfl|exact dl hd rfl|omega)
  · unfold goodKV
    rw [decide_eq_true (show 1 ≤ 200 + 3 * i by omega)]
    have : entP (Mine.clr i) = true := Bz (by decide +kernel) (by decide +kernel) (by decide +kernel) h0 (by first|exact dn hd rfl|exact dl hd rfl|omega) (by first|exact dn hd rfl|exact dl hd rfl|omega) (if_pos rfl)
    rw [this]; rfl
  · exact en4 (.str _ J2.1 J2.2) (.str _ ok_a.1 ok_a.2) (.int _ (by first|exact dn hd rfl|exact dl hd rfl|omega)) (.int _ (by first|exact dn hd rfl|exact dl hd rfl|omega)) (fun x hx => by cases hx) (lb rfl)
  · intro x hx
    simp only [List.mem_cons, List.not_mem_nil, or_false] at hx
    rcases hx with rfl | rfl | rfl
    · exact .inr ⟨_, rfl, ok_a.1⟩
    · exact .inl ⟨_, rfl⟩
    · exact .inl ⟨_, rfl⟩
end Mine
end
section
namespace Mine
open PySem
variable {G : String → Option MV} {Γ : String → Option MFun}
noncomputable def c02 : ME := .or [(.cmp (.cint 0) [.lt, .lt] [(.bin .mod (.var 3) (.cint 8)), (.cint 5)]), (.and [(.isinst (.var 1) .dict), (.cmp (.bi .len [(.var 1)]) [.gt] [(.cint 30)])])]
noncomputable def post02 : List MS := [f_law_7, Bn, Nv, Va, Kt, Jn, J1]
noncomputable def Fin02 (G : String → Option MV) (Γ : String → Option MFun) (a : Addr) (d : Nat) (RZ : MV → MH → Prop) (vars : MVars) (μ : MH) : Prop := evB G (calls G Γ (d + 2)) c02 [a] vars (fun t μ' => if t then (∃ u, vars 1 = some u ∧ RZ u μ') else exs G (calls G Γ (d + 2)) X0 post02 [a] vars (fun fl _ _ => fl = .ret (.bool true)) μ') μ
section
variable {d : Nat} {a b : Addr} {l : List (Int × MV)} {μ : MH} {V : MVars} {RZ : MV → MH → Prop}
theorem ne_m {μ : MH} {x y : MV} (h : eqM μ x y = some true) : cmpM .ne μ x y = some false := by
  show (eqM μ x y).map (!·) = some false
  rw [h]; rfl
theorem look_none {k : Int} (h : ∀ p ∈ l, p.1 ≠ k) : (lookI l k).isSome = false := by
  unfold lookI
  rw [List.find?_eq_none.mpr fun p hp => by rw [decide_eq_true_eq]; exact h p hp]; rfl
theorem post_run (K : Ks G Γ) (hd : 2 ≤ d) (hl : GL l) (hn : l.length ≤ 30) (v1 : V 1 = some (.ref b)) (hb : μ b = some (.idict l)) (hba : b ∉ [a]) : exs G (calls G Γ (d + 2)) X0 post02 [a] V (fun fl _ _ => fl = .ret (.bool true)) μ := by
  have hfit : fits l.length := fit (by first|exact dn hd rfl|exact dl hd rfl|omega)
  have dp : ∀ {μ : MH}, ∀ p ∈ l, ∃ e, deep μ 9 p.2 = some e := fun p hp => (hl.ent p hp).deep
  refine seq (x_as (Jg (Y0 v1 (Ap hb ⟨hfit, fun c₄ hc₄ hf₄ => ?_⟩))))
  have n4 := Y3 hb hc₄
  replace hb := Ext.upd (o := .idict l) hc₄ _ _ hb
  have h4 : upd μ c₄ (.idict l) c₄ = some (.idict l) := Xo
  replace v1 : setv V 4 (.ref c₄) 1 = some (.ref b) := (Xd (by decide)).trans v1
  have v4 : setv V 4 (.ref c₄) 4 = some (.ref c₄) := Xn
  show exs G (calls G Γ (d + 2)) X0 [Bn, Nv, Va, Kt, Jn, J1] [a] (setv V 4 (.ref c₄)) _ (upd μ c₄ (.idict l))
  generalize setv V 4 (.ref c₄) = V at v1 v4 ⊢
  generalize upd μ c₄ (.idict l) = μ at hb h4 ⊢
  refine seq (x_as (Vj (Y0 v1 (A7 K (by first|exact dn hd rfl|exact dl hd rfl|omega) hl hn hb fun c₅ hc₅ hf₅ => ?_))))
  have n5 := Y3 hb hc₅
  have m5 := Y3 h4 hc₅
  replace hb := Ext.upd (o := .idict l) hc₅ _ _ hb
  replace h4 := Ext.upd (o := .idict l) hc₅ _ _ h4
  have h5 : upd μ c₅ (.idict l) c₅ = some (.idict l) := Xo
  replace v1 : setv V 5 (.ref c₅) 1 = some (.ref b) := (Xd (by decide)).trans v1
  replace v4 : setv V 5 (.ref c₅) 4 = some (.ref c₄) := (Xd (by decide)).trans v4
  have v5 : setv V 5 (.ref c₅) 5 = some (.ref c₅) := Xn
  show exs G (calls G Γ (d + 2)) X0 [Nv, Va, Kt, Jn, J1] [a] (setv V 5 (.ref c₅)) _ (upd μ c₅ (.idict l))
  generalize setv V 5 (.ref c₅) = V at v1 v4 v5 ⊢
  generalize upd μ c₅ (.idict l) = μ at hb h4 h5 ⊢
  refine seq (Yi (Ye (Y7 (Yr (Y0 v5 ⟨true, Nt h5, Yw (Ye (Y2 (Y0 v5 (Y0 v4 ⟨false, ne_m (By h5 h4 hl.nodup dp), Yw (Ze (Y2 (Y0 v1 (Y0 v4 ⟨false, ne_m (By hb h4 hl.nodup dp), Yw (J3 (seq ?_))⟩))))⟩))))⟩)))))
  refine ⟨fit (lb rfl), _, v5, Ji h5 hf₅ hfit ?_⟩
  replace hb : ∀ o, upd μ c₅ o b = some (.idict l) := fun o => (Yv n5).trans hb
  replace h4 : ∀ o, upd μ c₅ o c₄ = some (.idict l) := fun o => (Yv m5).trans h4
  show exs G (calls G Γ (d + 2)) X0 [Kt, Jn, J1] [a] V _ (upd μ c₅ _)
  replace hb := hb (.idict (putI l 999 (.tup [.str (S "undo"), .int 1])))
  replace h4 := h4 (.idict (putI l 999 (.tup [.str (S "undo"), .int 1])))
  generalize upd μ c₅ (.idict (putI l 999 (.tup [.str (S "undo"), .int 1]))) = μ at hb h4 ⊢
  refine seq (x_as (Vj (Y0 v1 (A7 K (by first|exact dn hd rfl|exact dl hd rfl|omega) hl hn hb fun c₆ hc₆ hf₆ => ?_))))
  have n6 := Y3 hb hc₆
  replace hb := Ext.upd (o := .idict l) hc₆ _ _ hb
  replace h4 := Ext.upd (o := .idict l) hc₆ _ _ h4
  have h6 : upd μ c₆ (.idict l) c₆ = some (.idict l) := Xo
  replace v1 : setv V 6 (.ref c₆) 1 = some (.ref b) := (Xd (by decide)).trans v1
  replace v4 : setv V 6 (.ref c₆) 4 = some (.ref c₄) := (Xd (by decide)).trans v4
  have v6 : setv V 6 (.ref c₆) 6 = some (.ref c₆) := Xn
  show exs G (calls G Γ (d + 2)) X0 [Jn, J1] [a] (setv V 6 (.ref c₆)) _ (upd μ c₆ (.idict l))
  generalize setv V 6 (.ref c₆) = V at v1 v4 v6 ⊢
  generalize upd μ c₆ (.idict l) = μ at hb h4 h6 ⊢
  refine seq ⟨fit (lb rfl), _, v1, Ji hb hba hfit ?_⟩
  have h8 : upd μ b (.idict (putI l 998 (.tup [.str (S "undo"), .int 1]))) b = some (.idict (putI l 998 (.tup [.str (S "undo"), .int 1]))) := Xo
  replace h4 : upd μ b (.idict (putI l 998 (.tup [.str (S "undo"), .int 1]))) c₄ = some (.idict l) := (Yv (Ne.symm n4)).trans h4
  replace h6 : upd μ b (.idict (putI l 998 (.tup [.str (S "undo"), .int 1]))) c₆ = some (.idict l) := (Yv (Ne.symm n6)).trans h6
  show exs G (calls G Γ (d + 2)) X0 [J1] [a] V _ (upd μ b (.idict (putI l 998 (.tup [.str (S "undo"), .int 1]))))
  generalize upd μ b (.idict (putI l 998 (.tup [.str (S "undo"), .int 1]))) = μ at h8 h4 h6 ⊢
  have hnot : cmpM .notin μ (.int 999) (.ref b) = some true := by
    show (inM μ (.int 999) (.ref b)).map (!·) = some true
    rw [in_dict h8, look_put, look_none fun p hp e => by have := hl.rng p hp; omega]; rfl
  exact seq ⟨_, v6, _, v4, true, By h6 h4 hl.nodup dp, true, rfl, Y9 ⟨_, v1, true, hnot, rfl⟩⟩
theorem fin02 {cell : Int} {v : MV} (K : Ks G Γ) (hd : 3 ≤ d) (hRZ : ∀ u μ', Bad G Γ d [a] u μ' → RZ u μ') (hl : GL l) (hn : l.length ≤ 200) (v1 : V 1 = some v) (v3 : V 3 = some (.int cell)) (hba : b ∉ [a]) (hs : Spoilt l b μ (decide (0 < cell.fmod 8) && decide (cell.fmod 8 < 5)) v) : Fin02 G Γ a d RZ V μ := by
  unfold Fin02
  have hput : ∀ {k : Int} {w : MV}, (putI l k w).length ≤ 1000 := fun {k w} => by have := put_len (l := l) (j := k) (v := w); omega
  have yes : Spoilt l b μ true v → ∃ u, V 1 = some u ∧ RZ u μ := fun hs => ⟨v, v1, hRZ _ _ (by
    cases hs with
    | bad k w h1 h2 h3 h4 =>
      refine bad_dict K hd h1 hput (put_keys hl.nodup) (fun p hp => ?_) (fun p hp => ?_) fun _ => ⟨_, put_mem, h3⟩
      · rcases B2 hp with rfl | hp
        · exact h4
        · have := hl.rng p hp; omega
      · rcases B2 hp with rfl | hp
        · exact h2
        · exact hl.en p hp μ
    | odd k h1 h2 h3 => exact bad_odict K hd h1 hl (by first|exact dn hd rfl|exact dl hd rfl|omega) h2 h3
    | other _ h1 => exact bad_other h1)⟩
  have no : Spoilt l b μ false v → evB G (calls G Γ (d + 2)) (.or [(.and [(.isinst (.var 1) .dict), (.cmp (.bi .len [(.var 1)]) [.gt] [(.cint 30)])])]) [a] V (fun t μ' => if t then (∃ u, V 1 = some u ∧ RZ u μ') else exs G (calls G Γ (d + 2)) X0 post02 [a] V (fun fl _ _ => fl = .ret (.bool true)) μ') μ := fun hs => by
    cases hs with
    | same hb =>
      refine Ze (Bx (Yr (Y0 v1 ⟨true, Nt hb, Y9 (Oz (Y2 (Jg (Y0 v1 (Vn hb (by first|exact dn hd rfl|exact dl hd rfl|omega) ⟨_, Xg, tst (fun q => ?_) fun q => ?_⟩)))))⟩)))
      · have q := of_decide_eq_true q
        exact ⟨_, v1, hRZ _ _ (bad_dict K hd hb (by first|exact dn hd rfl|exact dl hd rfl|omega) hl.nodup (fun p hp => by have := hl.rng p hp; omega) (fun p hp => hl.en p hp μ) fun h => by omega)⟩
      · have q := of_decide_eq_false q
        exact post_run K (by first|exact dn hd rfl|exact dl hd rfl|omega) hl (by first|exact dn hd rfl|exact dl hd rfl|omega) v1 hb hba
  refine Ye (evB_cmp2 ⟨_, v3, by decide, _, Xf, ?_⟩)
  by_cases q : 0 < cell.fmod 8
  · rw [decide_eq_true q, Bool.true_and] at hs
    rw [decide_eq_true q]
    refine Y9 ⟨_, Xf, ?_⟩
    by_cases q' : cell.fmod 8 < 5
    · rw [decide_eq_true q'] at hs ⊢
      exact Y9 (Y9 (yes hs))
    · rw [decide_eq_false q'] at hs ⊢
      exact Yw (no hs)
  · rw [decide_eq_false q, Bool.false_and] at hs
    rw [decide_eq_false q]
    exact Yw (Yw (no hs))
end
theorem Ag {Φ : CallSpec} {a b : Addr} {fz : List Addr} {R : MFlow → MVars → MH → Prop} {sc : MO} (hab : a ≠ b) (hbf : b ∉ fz) : ∀ (j i : Nat) (V : MVars) (μ : MH) (l : List (Int × MV)), i + j ≤ 100 → GL l → l.length + j ≤ 200 → V 0 = some (.ref a) → V 1 = some (.ref b) → μ a = some sc → μ b = some (.idict l) →
    (∀ V' μ' l', GL l' → l'.length ≤ 200 → V' 0 = some (.ref a) → V' 1 = some (.ref b) → μ' a = some sc → μ' b = some (.idict l') → R .next V' μ') →
    loopM (.one 2) (fun vs F μ => exs G Φ X0 [Nk] fz vs F μ) R ((List.range' i j).map fun (k : Nat) => MV.int k) V μ
  | 0 => fun i V μ l _ hl hn v0 v1 ha hb h => h V μ l hl (by first|exact dn hd rfl|exact dl hd rfl|omega) v0 v1 ha hb
  | j + 1 => fun i V μ l hi hl hn v0 v1 ha hb h => by
    rw [List.range'_succ, List.map_cons, Ju]
    refine ⟨_, rfl, ?_⟩
    replace v0 : setv V 2 (.int i) 0 = some (.ref a) := (Xd (by decide)).trans v0
    replace v1 : setv V 2 (.int i) 1 = some (.ref b) := (Xd (by decide)).trans v1
    have v2 : setv V 2 (.int i) 2 = some (.int i) := Xn
    generalize setv V 2 (.int i) = V at v0 v1 v2 ⊢
    refine seq ⟨_, v2, _, v2, .inl (sm (by decide) (by decide)), fit (lb rfl), _, v1, _, v2, .inl (sm (by decide) (by decide)), Ji hb hbf (fit (by first|exact dn hd rfl|exact dl hd rfl|omega)) ?_⟩
    exact Ag hab hbf j (i + 1) V _ (putI l (200 + 3 * (i : Int)) (clr i)) (by first|exact dn hd rfl|exact dl hd rfl|omega) (hl.clr (by first|exact dn hd rfl|exact dl hd rfl|omega) (by first|exact dn hd rfl|exact dl hd rfl|omega)) (by have := put_len (l := l) (j := 200 + 3 * (i : Int)) (v := clr i); omega) v0 v1 ((Yv hab).trans ha) Xo h
theorem law02_run {d : Nat} {a : Addr} {ns : List Int} {μ : MH} {RZ : MV → MH → Prop} (K : Ks G Γ) (hd : 3 ≤ d) (hRZ : ∀ u μ', Bad G Γ d [a] u μ' → RZ u μ') (ha : μ a = some (.list (ns.map .int))) (hn : ns.length ≤ 63) : runT G (calls G Γ (d + 2)) [a] (Fin02 G Γ a d RZ) [Bp, Bo, Nw, V9, U0] (args0 [.ref a]) μ := by
  refine x_as ⟨_, rfl, Pg K.of K.base K.lentry K.names K.book (by first|exact dn hd rfl|exact dl hd rfl|omega) ha hn (by decide) fun b μ₁ kvs x₁ hb0 hba hb hB => ⟨rfl, ?_⟩⟩
  obtain ⟨hl, hlen⟩ := GL.of hB
  have hab : a ≠ b := fun q => by rw [← q, ha] at hb0; cases hb0
  replace ha := x₁ _ _ ha
  clear x₁ hb0 hB
  have go5 : ∀ (V : MVars) (μ : MH) (l : List (Int × MV)) (cell : Int), GL l → l.length ≤ 200 → V 1 = some (.ref b) → V 3 = some (.int cell) → μ b = some (.idict l) → (cell.fmod 8 = 2 → (cell.fdiv 8).fmod 7 = 2 → (l.any fun p => decide (p.1 = 1)) = false) → runT G (calls G Γ (d + 2)) [a] (Fin02 G Γ a d RZ) [U0] V μ := by
    intro V μ l cell hl hlen v1 v3 hb h1
    refine x_as ⟨_, v1, _, v3, spoilt_spec K (by first|exact dn hd rfl|exact dl hd rfl|omega) hl (by first|exact dn hd rfl|exact dl hd rfl|omega) hb hba h1 fun v μ' hs => ⟨rfl, ?_⟩⟩
    exact fin02 K hd hRZ hl hlen Xn ((Xd (by decide)).trans v3) hba hs
  have go3 : ∀ (V : MVars) (μ : MH) (l : List (Int × MV)), GL l → l.length ≤ 200 → V 0 = some (.ref a) → V 1 = some (.ref b) → μ a = some (.list (ns.map .int)) → μ b = some (.idict l) → runT G (calls G Γ (d + 2)) [a] (Fin02 G Γ a d RZ) [Nw, V9, U0] V μ := by
    intro V μ l hl hlen v0 v1 ha hb
    refine x_as ⟨_, v0, Yh K.of (by first|exact dn hd rfl|exact dl hd rfl|omega) ha hn (by decide) fun μ₂ x₂ => ⟨rfl, ?_⟩⟩
    generalize at0 ns 3 = cell
    replace hb := x₂ _ _ hb
    replace v1 : setv V 3 (.int cell) 1 = some (.ref b) := (Xd (by decide)).trans v1
    have v3 : setv V 3 (.int cell) 3 = some (.int cell) := Xn
    show runT G (calls G Γ (d + 2)) [a] (Fin02 G Γ a d RZ) [V9, U0] (setv V 3 (.int cell)) μ₂
    generalize setv V 3 (.int cell) = V at v1 v3 ⊢
    refine Yi (Bx (Y2 ⟨_, v3, by decide, _, Xr, tst (fun q => ?_) fun q => ⟨rfl, go5 V μ₂ l cell hl hlen v1 v3 hb fun e => ?_⟩⟩))
    · refine Oz (Y2 ⟨_, v3, ⟨by decide, sm (by decide) (by decide)⟩, by decide, _, Xr, tst (fun q' => ?_) fun q' => ⟨rfl, go5 V μ₂ l cell hl hlen v1 v3 hb fun _ e => ?_⟩⟩)
      · refine seq ⟨_, v1, mk_idict hb, l, hb, hba, fit (by first|exact dn hd rfl|exact dl hd rfl|omega), ?_⟩
        refine ⟨rfl, go5 V _ (delI l 1) cell hl.del (Nat.le_trans (List.length_filter_le _ _) hlen) v1 v3 Xo fun _ _ => ?_⟩
        rw [List.any_eq_false]
        intro p hp
        have := (List.mem_filter.mp hp).2
        simpa using this
      · rw [e, beq_self_eq_true] at q'; cases q'
    · rw [e, beq_self_eq_true] at q; cases q
  refine Yi (Y2 ⟨_, rfl, Yh K.of (by first|exact dn hd rfl|exact dl hd rfl|omega) ha hn (by decide) fun μ₂ x₂ => ⟨⟨by decide, sm (by decide) (by decide)⟩, by decide, _, Xr, tst (fun q => ?_) fun q => ⟨rfl, go3 _ _ kvs hl (by first|exact dn hd rfl|exact dl hd rfl|omega) rfl rfl (x₂ _ _ ha) (x₂ _ _ hb)⟩⟩⟩)
  refine seq ⟨_, rfl, Yh K.of (by first|exact dn hd rfl|exact dl hd rfl|omega) (x₂ _ _ ha) hn (by decide) fun μ₃ x₃ => ⟨by decide, _, rfl, ?_⟩⟩
  dsimp only [Ql]
  refine Vn (x₃ _ _ (x₂ _ _ hb)) (by first|exact dn hd rfl|exact dl hd rfl|omega) ?_
  dsimp only [X1]
  have f5 := fm (a := at0 ns 2) (b := 5) (by decide)
  generalize (at0 ns 2).fmod 5 = m at f5
  refine ⟨.ints (rangeL 0 (28 + m - kvs.length) 1), _, ?_, rfl, ?_, ?_⟩
  · simp only [mkSrc, rangeM]
    rw [if_pos (by simp only [in62, Bool.and_eq_true, decide_eq_true_eq]; omega)]; rfl
  · rw [List.length_map, Yn]; exact fit (by first|exact dn hd rfl|exact dl hd rfl|omega)
  simp only [Src.held, List.nil_append]
  rw [O5]
  exact Ag hab hba _ 0 _ _ kvs (by first|exact dn hd rfl|exact dl hd rfl|omega) hl (by first|exact dn hd rfl|exact dl hd rfl|omega) rfl rfl (x₃ _ _ (x₂ _ _ ha)) (x₃ _ _ (x₂ _ _ hb)) fun V' μ' l' hl' hlen' v0 v1 ha' hb' => ⟨rfl, go3 V' μ' l' hl' hlen' v0 v1 ha' hb'⟩
end Mine
end
section
namespace Mine
open PySem PySem.Calls PyProof.Rows PySem.W
noncomputable def consts02 : Consts := [("MOST", .int 30), ("MOST_SIGNS", .int 8), ("MOST_DAY", .int 1000000), ("MOST_WORTH", .int 1000000000), ("LETTERS", .str (S "abcdefghijklmnopqrstuvwxyz"))]
theorem law02 {prog : Program} {w : World} {h₀ : Heap} {mg mb : Str → Option Value} {K D a fa : Addr} {s : Shared} {vs : List Value} {ns : List Int} {E : Value → Shared → Prop} (pg : PG prog w consts02.env defs02.env h₀ mg mb) (X : Xcs h₀ mg mb "BookError" "BadBook" ["BadEntry", "NoEntry", "Closed", "TooMany", "Gone", "BadText"] K D) (hs : s.heap = h₀) (hfa : mg (Str.ofString "law") = some (.ref fa)) (hp : s.heap.PlainList a vs.toArray) (hi : IntsAre vs ns) (hA : OkA 60 callerA) (hn : ns.length ≤ 63) :
    wpAny (model prog w) callerA (call (.ref fa) [.ref a]) (fun v s' => v = .bool true ∧ (∀ b o, s.heap.get? b = some o → s'.heap.get? b = some o) ∧ s'.os = s.os ∧ s'.gens = s.gens) E s :=
  law2_native (d := 57) (pre := [Bp, Bo, Nw, V9, U0]) (post := post02) (c := c02) (rf := "_law_refused") (need := "need_book") (f := "law") (ei := 1) (ki := 2) (vi := 1) (o1 := ["BadEntry", "NoEntry", "Closed", "TooMany"]) (o2 := ["Gone", "BadText"])
    pg X hs hfa rfl rfl (pg.fnAt (f := "need_book") rfl) (by decide) (by decide) (by decide) (by decide) (by decide) hA hp hi
    (law02_run ⟨rfl, rfl, rfl, rfl, rfl, rfl, rfl, rfl, rfl, rfl, rfl, rfl, rfl, rfl, rfl, rfl, rfl, rfl, rfl⟩ (by decide) (fun u μ' hb => raises2 (c1 := nb1) (c2 := nb2) (c3 := nb3) pg X rfl hb) Xo hn)
end Mine
end
section
namespace Mine
open PySem PySem.Calls PyProof.Rows PySem.W
noncomputable def clsOk1 (h : Heap) (x : Str) (chain : List Str) : Bool := h.ownExcOk x chain bmV "ValueError.__new__" && (match h.clsAt mainGlobals x with
  | some (_, _, cd) => qn.all fun n => (h.nsMap cd.ns n).isNone
  | none => false)
theorem Ur {h : Heap} {x : Str} {chain : List Str} (e : clsOk1 h x chain = true) : ∃ C, h.nsMap mainGlobals x = some (.ref C) ∧ ∃ N nm q bs hdct sn sub ab col dd k0 k1 k2 k3 k5 mN, h.get? C = some (excClassObj nm q C N bs ((chain.map fun n => (h.nsMap mainGlobals n).getD .none) ++ bmV) hdct sn sub ab col dd k0 k1 k2 k3 k5 "ValueError.__new__") ∧ h.Ns N mN ∧ ∀ n ∈ qn, mN n = none := by
  obtain ⟨e, y⟩ := and2 e
  obtain ⟨C, N, nm, q, bs, hdct, sn, sub, ab, col, dd, k0, k1, k2, k3, k5, hb, hC, hN, _⟩ := Heap.ownExc_of_ok e
  refine ⟨C, hb, N, nm, q, bs, hdct, sn, sub, ab, col, dd, k0, k1, k2, k3, k5, _, hC, hN, fun n hn => ?_⟩
  cases hf : h.clsAt mainGlobals x with
  | none => rw [hf] at y; cases y
  | some z =>
    obtain ⟨C', o', cd'⟩ := z
    rw [hf] at y
    obtain ⟨hn', ho', hd'⟩ := Heap.clsAt_spec hf
    rw [hb] at hn'
    obtain rfl : C = C' := by injection hn' with q1; injection q1
    rw [hC] at ho'
    cases ho'
    cases hd'
    have := List.all_eq_true.mp y n hn
    simpa using this
noncomputable def clssOk (bk bad : String) (others : List String) (h : Heap) : Bool := clsOk1 h (Str.ofString bk) [] && (clsOk1 h (Str.ofString bad) [Str.ofString bk] && others.all fun n => clsOk1 h (Str.ofString n) [Str.ofString bk] && (!decide (h.nsMap mainGlobals (Str.ofString n) = h.nsMap mainGlobals (Str.ofString bad)) && !decide (h.nsMap mainGlobals (Str.ofString n) = h.nsMap mainGlobals (Str.ofString bk))))
noncomputable def Clss (bk bad : String) (others : List String) (mg : Str → Option Value) (h : Heap) : Prop := ∃ K D, mg (Str.ofString bk) = some (.ref D) ∧ mg (Str.ofString bad) = some (.ref K) ∧ ClsAt h D [] ∧ ClsAt h K [D] ∧ ∀ n ∈ others, ∃ X, mg (Str.ofString n) = some (.ref X) ∧ ClsAt h X [D] ∧ X ≠ K ∧ X ≠ D
theorem Clss.keeps {bk bad : String} {others : List String} {mg : Str → Option Value} {h h' : Heap} (x : Clss bk bad others mg h) (k : ∀ b o, h.get? b = some o → h'.get? b = some o) : Clss bk bad others mg h' := by
  obtain ⟨K, D, h1, h2, h3, h4, h5⟩ := x
  refine ⟨K, D, h1, h2, h3.keeps k, h4.keeps k, fun n hn => ?_⟩
  obtain ⟨X, a, b, c⟩ := h5 n hn
  exact ⟨X, a, b.keeps k, c⟩
theorem Clss.of {bk bad : String} {others : List String} {h : Heap} (e : clssOk bk bad others h = true) : Clss bk bad others (h.nsMap mainGlobals) h := by
  obtain ⟨e1, e2⟩ := and2 e
  obtain ⟨e2, e3⟩ := and2 e2
  obtain ⟨D, hD, o1⟩ := Ur e1
  obtain ⟨K, hK, o2⟩ := Ur e2
  have f : ∀ {x : Str} {C : Addr}, (∃ N nm q bs hdct sn sub ab col dd k0 k1 k2 k3 k5 mN, h.get? C = some (excClassObj nm q C N bs (([Str.ofString bk].map fun n => (h.nsMap mainGlobals n).getD .none) ++ bmV) hdct sn sub ab col dd k0 k1 k2 k3 k5 "ValueError.__new__") ∧ h.Ns N mN ∧ ∀ n ∈ qn, mN n = none) → ClsAt h C [D] := fun {x C} o => by
    have : ([Str.ofString bk].map fun n => (h.nsMap mainGlobals n).getD .none) = [Value.ref D] := by
      simp only [List.map_cons, List.map_nil, hD, Option.getD_some]
    rw [this] at o
    exact o
  refine ⟨K, D, hD, hK, o1, f (x := Str.ofString bad) o2, fun n hn => ?_⟩
  have := List.all_eq_true.mp e3 n hn
  obtain ⟨a1, a2⟩ := and2 this
  obtain ⟨a2, a3⟩ := and2 a2
  obtain ⟨X, hX, o3⟩ := Ur a1
  rw [Bool.not_eq_true', decide_eq_false_iff_not] at a2 a3
  exact ⟨X, hX, f (x := Str.ofString n) o3, fun q => a2 (by rw [hX, hK, q]), fun q => a3 (by rw [hX, hD, q])⟩
end Mine
end
section
set_option Elab.async false
set_option maxRecDepth 100000
set_option maxHeartbeats 8000000
open PySem PySem.W PyProof.Rows
namespace Mine
noncomputable def lz : List Str := [("BookError" : Str), ("BadBook" : Str), ("BadEntry" : Str), ("NoEntry" : Str), ("Closed" : Str), ("TooMany" : Str), ("Gone" : Str), ("BadText" : Str)]
noncomputable def qOf : Program := view Challenge.pw_uf030030_02 [10, 11, 12, 13, 14, 15, 16, 17, 18, 19, 20, 22, 23, 24, 25, 26, 27, 28, 29]
theorem topOf (w : World) (os : OsState) : (topFrom treeTable Challenge.pw_uf030030_02 w 5000 ⟨boot_heap w.params, Array.mk [], boot_drawn, boot_toks, os⟩).map (fun s => (openSeen qOf lz (importedModules Challenge.pw_uf030030_02.main.body) (fun s => xlAt qOf [] s && clssOk "BookError" "BadBook" ["BadEntry", "NoEntry", "Closed", "TooMany", "Gone", "BadText"] s.heap) true s, ())) = some (openGood qOf lz, ()) := by
  kernel_rfl
theorem leftOf : LeftO Challenge.pw_uf030030_02 qOf lz (fun s => xlAt qOf [] s && clssOk "BookError" "BadBook" ["BadEntry", "NoEntry", "Closed", "TooMany", "Gone", "BadText"] s.heap) (fun _ => ()) (fun _ => ()) 5000 := fun w => by
  obtain ⟨⟨h, g, dr, t, os⟩, hs, e⟩ := Option.map_eq_some_iff.mp (boot_open (p := Challenge.pw_uf030030_02) (N := 5000) (by rfl) (by decide +kernel) (fun s => by rfl) w)
  obtain ⟨e1, e⟩ := Prod.mk.inj e
  obtain ⟨e2, e⟩ := Prod.mk.inj e
  obtain ⟨e3, e4⟩ := Prod.mk.inj e
  dsimp only at e1 e2 e3 e4
  subst e1 e2 e3 e4
  unfold openEnds
  rw [hs]
  exact topOf w os
theorem defIs : (defOf qOf Challenge.rw_uf030030_02.name).isSome = true := by decide +kernel
end Mine
theorem PySem.Challenge.cw_uf030030_02_holds : PySem.Challenge.rw_uf030030_02.Holds := by
  refine holds_law (by decide +kernel) fun said => ?_
  refine holds_open (r := Challenge.rw_uf030030_02.row) (q := Mine.qOf) (loose := Mine.lz) (d := ((defOf Mine.qOf Challenge.rw_uf030030_02.name).get Mine.defIs).1) (kwd := ((defOf Mine.qOf Challenge.rw_uf030030_02.name).get Mine.defIs).2) (Xt := fun s => xlAt Mine.qOf [] s && Mine.clssOk "BookError" "BadBook" ["BadEntry", "NoEntry", "Closed", "TooMany", "Gone", "BadText"] s.heap) (XP := fun mg h => XL Mine.qOf [] mg h ∧ Mine.Clss "BookError" "BadBook" ["BadEntry", "NoEntry", "Closed", "TooMany", "Gone", "BadText"] mg h) (YP := fun _ _ => True) Mine.leftOf (fun _ _ _ => trivial) (fun _ _ _ _ _ => trivial) (fun s e => ⟨xl_of s (Mine.and2 e).1, Mine.Clss.of (Mine.and2 e).2⟩) (fun mg h h' x k => ⟨XL.keeps mg h h' x.1 k, x.2.keeps k⟩)
    (by kernel_rfl) (by kernel_rfl) (by kernel_rfl) (fun s e => recFacts_nil rfl) rfl said (by decide +kernel) ⟨rfl, rfl, rfl, rfl, rfl, by decide +kernel⟩ ⟨[.list []], by decide +kernel, by decide +kernel⟩ ?_
  intro w s₀ s₁ mg mb G Y fa o pm cd doc dV kV ho hd hcd hD hmg hg args vals as hpre hlay hrd hwl hlo
  have hX := G.X.2
  refine Ground.open G ?_
  intro T B D TE TW
  clear hd hcd hD
  wrow_args hpre hlay hrd hwl hlo
  rename_i ns _ _ _ _ _ _ _ a vs _ hL _ hW _ hI _ hlen _
  have pg := Mine.pg_of (prog := Challenge.rw_uf030030_02.row.prog) (w := w) T Mine.defs02 Mine.consts02 (by decide +kernel) rfl (by decide +kernel) (by decide +kernel)
  have hp : s₁.heap.PlainList a vs.toArray := Mine.plain_of hW hL
  obtain ⟨Kc, Dc, x1, x2, x3, x4, x5⟩ := hX
  have hve : mg (Str.ofString "ValueError") = none ∧ mb (Str.ofString "ValueError") = some (.type "ValueError") := ⟨T.free _ (by decide +kernel) (by decide +kernel) (by decide +kernel) (by decide +kernel) (by decide +kernel), (T.builtins _ (by decide +kernel)).trans PyProof.Rows.Boot.«ValueError»⟩
  refine wpAny_mono (Mine.law02 pg ⟨x1, x2, x3, x4, x5, hve⟩ rfl hmg hp hI (show Mine.OkA 60 callerA from ⟨rfl, by decide, by decide⟩) (by omega)) (fun v s' h => GoodW.toG ?_) fun _ _ e => e
  obtain ⟨rfl, hk, hos, hgs⟩ := h
  refine ⟨.inl ⟨.bool true, .bool true, [], rfl, ?_, ?_, ?_, ?_⟩, hk, hos, hgs.trans hg⟩
  · intro cls; rfl
  · constructor
  · refine postW_of (X := true) (by decide +kernel) ?_ rfl
    first
      | (with_unfolding_all rfl)
      | (simp [OpenLaw.row, WTm.value]; done)
  · intro _; exact ⟨List.nodup_nil, fun _ h => by cases h⟩
end
