import PyProof.Rows.All
import HandS.TupAny
import HandS.TupMul
import HandS.Conv
import HandS.ForMost
import HandS.TupSets
import HandS.DictTup
import HandS.Dict
import HandS.Iter
import KE.KDictDisplayH
import KE.KDictWalk
import KE.KEqDict
import HandS.Sort
import KE.DataMinMax
import HandS.ForExc
import HandS.ForSpec
import HandS.Walk
import HandS.Codes
import HandS.Zip
import HandS.IsInst
import HandS.Deep
import HandS.Flow
import HandS.Strs
import HandS.SetKeys
import HandS.Wide
import HandS.TryMany
import HandS.Style
import HandS.RevTup
import PyProof.StrOps2
import KE.DataCmp
import PyProof.SumAny
import HandS.RaiseMore
import KE.GoesEnum
import HandS.HeadHook2
import HandS.WordsExc
import HandS.Defaults
import KE.KStateDown
import HandS.Head0
import HandS.Head1
import HandS.Head2
import HandS.HeadEnd
import HandS.HeadHook1
import HandS.SetFor
import PyProof.Rows.SortStr
import HandS.SortInts
import KE.DataFind
import PySem.Challenge.RW_clothholds_k78_whole_covers_and_long_pie
set_option Elab.async false
set_option linter.all false
set_option maxRecDepth 100000
set_option maxHeartbeats 4000000
/-! EVN: rules that make tuples, told with the object that is made: a plain one, without a dict of its own -/
namespace EVN
open PySem PySem.Spec L2
open PyProof.Rows hiding St
/-- a plain new object -/
abbrev NewT (H : Hp) (Q : VK) (xs : List V) : Prop := ∀ (p : Addr) (o : Obj), H p = none → o.dict = none → Q (.ref p) (upd H p (.frz o (.tup xs)))
abbrev plainT (its : List Value) : Obj := { cls := .type "tuple", data := .seq its.toArray }
theorem frz_ok {P : Program} {w : World} {H : Hp} {h h' : Heap} {xs : List V} {its : List Value} (e : h' = h.push (plainT its)) (hl : xs.length ≤ sizeLine) (r : Vals xs its) : ObjOk P w H h' h.objs.size (.frz (plainT its) (.tup xs)) := by
  subst e
  exact ⟨Heap.get?_push_size _ rfl, hl, its, r, IsTup.new _ _⟩
section
variable {X : Cx} {pins : List (Addr × Obj)} {σ : St} {H : Hp} {s : Shared}
theorem land {Q : VK} {xs : List V} {its : List Value} (I : Inv X pins σ H s) (hl : xs.length ≤ sizeLine) (r : Vals xs its) (q : NewT H Q xs) :
    ∃ (v : V) (H' : Hp), Inv X pins σ H' { s with heap := s.heap.push (plainT its) } ∧ RelV v (.ref s.heap.objs.size) ∧ Q v H' :=
  ⟨.ref s.heap.objs.size, _, I.laid (o := .frz (plainT its) (.tup xs)) (fun _ _ e => Heap.get?_push_of_some _ e) (Nat.le_refl _) (frz_ok rfl hl r), rfl, q _ _ (I.hok.fresh (Nat.le_refl _)) rfl⟩
end
section
variable {X : Cx} {pos : Pos} {es : List Expr} {t : TA}
def tTupN (t : TA) : TE := fun σ H Q => t σ H fun xs H1 => xs.length ≤ sizeLine ∧ NewT H1 Q xs
theorem pe_tupN {x1} (h : PA X es t) : PE X (.Tuple es x1 pos) (tTupN t) :=
  ⟨fun pins s σ H Q I hq => wpAny_Tuple_spliced (thn (h.run pos pins s σ H _ I hq) fun us s1 ⟨xs, H1, I1, r, z, q⟩ => ⟨by rw [← r.length]; exact z, land I1 z r q⟩)⟩
/-- tuple(x) -/
theorem call_tupleN : CallR X (.type "tuple") (fun xs H Q => ∃ p ys, xs = [.ref p] ∧ ((SqL X.K H p ys ∧ NewT H Q ys) ∨ (SqT X.K H p ys ∧ Q (.ref p) H))) := by
  rintro pins s σ H xs us Q I r ⟨p, ys, rfl, h⟩
  obtain ⟨u, rfl, rx⟩ := vals1 r
  cases rx
  rcases h with ⟨hq, q⟩ | ⟨hq, q⟩
  · obtain ⟨its, r', pl, hz⟩ := I.list hq
    have hlen := r'.length
    exact call_tuple_list pl.isList (fun h' kp => land (I.kept (t' := s.toks) kp) hz r' q) (by simp only [List.size_toArray] <;> omega)
  · obtain ⟨its, r', pl, hz⟩ := I.tuple hq
    exact call_tuple_same pl ⟨.ref p, H, I, rfl, q⟩
/-- tuple + tuple -/
def rCatN (K : PySem.W.Frag) : R2 := fun x y H Q => ∃ a b xs ys, x = .ref a ∧ y = .ref b ∧ SqT K H a xs ∧ SqT K H b ys ∧ xs.length + ys.length ≤ sizeLine ∧ (xs = [] → Q y H) ∧ (xs ≠ [] → ys = [] → Q x H) ∧ (xs ≠ [] → ys ≠ [] → NewT H Q (xs ++ ys))
theorem op_catN : OpR X (binaryOp .Add) (rCatN X.K) := by
  rintro pins s σ H x y v u Q I rx ry ⟨a, b, xs, ys, rfl, rfl, ha, hb, hz, q0, q1, q2⟩
  cases rx
  cases ry
  obtain ⟨its, r1, p1, _⟩ := I.tuple ha
  obtain ⟨its2, r2, p2, _⟩ := I.tuple hb
  by_cases hx : xs = []
  · subst hx
    cases r1
    exact cat_tup0 p1 p2 ⟨.ref b, H, I, rfl, q0 rfl⟩
  · refine HT.cat_tup p1 p2 (fun z => hx (r1.nil_iff.mp z)) (fun z => ⟨.ref a, H, I, rfl, q1 hx (r2.nil_iff.mp z)⟩) (fun z => ?_) (by rw [← r1.length, ← r2.length]; exact hz)
    exact land I (by rw [List.length_append]; exact hz) (r1.append r2) (q2 hx fun w => z (r2.nil_iff.mpr w))
/-- tuple[lo:hi] -/
def rSlN (K : PySem.W.Frag) : V → Option Int → Option Int → Hp → VK → Prop := fun x lo hi H Q => ∃ a xs, x = .ref a ∧ SqT K H a xs ∧
  ((HT.sIx xs.length 0 lo = 0 ∧ HT.sIx xs.length xs.length hi = xs.length) → Q x H) ∧ (¬ (HT.sIx xs.length 0 lo = 0 ∧ HT.sIx xs.length xs.length hi = xs.length) → NewT H Q (cutV xs lo hi))
theorem sl_tupN : SlR X (rSlN X.K) := by
  rintro pins s σ H x v vl vu lo hi sl Q I rx hs pl pu ⟨a, xs, rfl, hx, q1, q2⟩
  cases rx
  obtain ⟨its, r, ht, hz⟩ := I.tuple hx
  have hlen : its.toArray.size = xs.length := List.size_toArray.trans r.length.symm
  by_cases hw : HT.sIx xs.length 0 lo = 0 ∧ HT.sIx xs.length xs.length hi = xs.length
  · exact ⟨"tuple", _, PyProof.Rows.slot_tuple_getitem.lookup, ht.typeIs, getItem_tuple_whole ht hs pl pu (by rw [hlen]; exact hw) ⟨.ref a, H, I, rfl, q1 hw⟩⟩
  · refine ⟨"tuple", _, PyProof.Rows.slot_tuple_getitem.lookup, ht.typeIs, HT.getItem_tuple_cut ht hs pl pu (by rw [hlen]; exact hw) ?_ (by rw [hlen]; exact hz)⟩
    rw [hlen]
    exact land I (Nat.le_trans (cutV_length xs lo hi) hz) ((r.drop (HT.sIx xs.length 0 lo)).take (HT.sIx xs.length xs.length hi - HT.sIx xs.length 0 lo)) (q2 hw)
/-- tuple * int -/
def rRepN (K : PySem.W.Frag) : R2 := fun x y H Q => ∃ l k xs, x = .ref l ∧ y = .int k ∧ SqT K H l xs ∧ xs ≠ [] ∧ 2 ≤ k ∧ k ≤ 1000 ∧ xs.length ≤ 1000 ∧ NewT H Q (List.replicate k.toNat xs).flatten
theorem op_repN : OpR X (binaryOp .Mult) (rRepN X.K) := by
  rintro pins s σ H x y v u Q I rx ry ⟨l, k, xs, rfl, rfl, hT, hne, h1, h2, hz, q⟩
  cases rx
  obtain ⟨t, rfl⟩ := ry
  obtain ⟨its, r, ⟨⟨cls, dd, data, sl⟩, ho, hc, n, hd⟩, hs⟩ := I.tuple hT
  simp only at hc hd
  subst hc hd
  have hle : its.length = xs.length := r.length.symm
  have hi : its.toArray.isEmpty = false := by
    cases its with
    | nil => exact absurd (List.eq_nil_of_length_eq_zero hle.symm) hne
    | cons a b => rfl
  have hsz0 : its.toArray.size = xs.length := List.size_toArray.trans hle
  have hm : ((its.toArray.size : Nat) : Int) * k ≤ 1000000 := by
    rw [hsz0]
    have a1 : ((xs.length : Nat) : Int) * k ≤ 1000 * k := Int.mul_le_mul_of_nonneg_right (by omega) (by omega)
    omega
  have flen : (List.replicate k.toNat its).flatten.length ≤ sizeLine := by
    rw [PyProof.Rows.lm_len_rep_flat, hle, sizeLine_eq]
    have a1 : k.toNat * xs.length ≤ 1000 * 1000 := Nat.mul_le_mul (by omega) hz
    omega
  have c0 : (decide (k < -(2 ^ 63)) || decide (k ≥ 2 ^ 63)) = false := by
    rw [decide_eq_false (by omega), decide_eq_false (by omega)] <;> rfl
  have c1 : (its.toArray.isEmpty || k == 1) = false := by
    rw [hi, Bool.false_or, beq_eq_false_iff_ne]
    omega
  have c2 : (decide (k ≤ 0) || its.toArray.isEmpty) = false := by
    rw [hi, Bool.or_false, decide_eq_false (by omega)]
  have c4 : Builtin.Tuple.tupleTooMany (((its.toArray.size : Nat) : Int) * k) = false := by
    unfold Builtin.Tuple.tupleTooMany
    rw [sizeLine_eq, decide_eq_false (by omega)]
  have fin : ∃ (v : V) (H' : Hp), Inv X pins σ H' { s with heap := s.heap.push (plainT (List.replicate k.toNat its).flatten) } ∧ RelV v (.ref s.heap.objs.size) ∧ Q v H' :=
    land I (by rw [PyProof.Rows.lm_len_rep_flat, sizeLine_eq]; have a1 : k.toNat * xs.length ≤ 1000 * 1000 := Nat.mul_le_mul (by omega) hz; omega) (r.rep k.toNat) q
  refine wpAny_binaryOp_repeat_ref (T := "tuple") (U := "int") (by decide) ⟨_, ho, rfl⟩ (fun s' => typeIs_int s' k t) noFill_tuple_mul F.fills_int_mul F.slot_int_rmul repeat_tuple F.slot_int_index.lookup (call_meets F.slot_int_rmul (typeIs_int s k t) F.entry_int_rmul (F.args_int_rmul_2 _ _) (int_rmul_tuple k t l its.toArray n dd sl) ⟨ho, rfl, ⟨_, ho, rfl⟩, call_meets F.slot_tuple_mul ⟨_, ho, rfl⟩ F.entry_tuple_mul (F.args_tuple_mul_2 _ _) (tuple_mulW l its.toArray n dd sl k t c0 c1 c2 (by omega) c4 (by rw [size_rep, List.size_toArray]; exact flen)) ⟨ho, ?_⟩⟩)
  rw [size_rep]
  exact fin
end
end EVN

/-! EVT: dicts whose keys are tuples of ints, also constant ones -/
namespace EVT
open PySem PySem.Spec L2
open PyProof.Rows hiding St
abbrev TRow := List Int × Addr × V
abbrev kT (P : Program) (w : World) := tupleKind (PySem.intKind P w)
def tEnt (x : List Int × Addr × Value) : DictEntry := ⟨reduceHash (Builtin.Tuple.tupleHashOf (x.1.map hashInt)), .ref x.2.1, x.2.2⟩
theorem tEnt_eq (P : Program) (w : World) (x : List Int × Addr × Value) : tEnt x = entryOfKey (kT P w) x := rfl
theorem tEnts (P : Program) (w : World) : tEnt = entryOfKey (kT P w) := funext fun x => tEnt_eq P w x
abbrev RowOk (p : TRow) (q : List Int × Addr × Value) : Prop := p.1 = q.1 ∧ p.2.1 = q.2.1 ∧ RelV p.2.2 q.2.2
def TDat (a : Addr) (rows : List TRow) (h : Heap) : Prop := rows.length ≤ sizeLine ∧ (a == sysModules) = false ∧ ∃ xs, Paired RowOk rows xs ∧
  ∃ o es ep, h.get? a = some o ∧ o.ExactDict ∧ o.data = .dict es ep ∧ es.toList = xs.map tEnt ∧ (xs.map (·.1)).Nodup
def TD (a : Addr) (rows : List TRow) : HO := .ext (TDat a rows)
theorem td_ok {P : Program} {w : World} {H : Hp} {h : Heap} {a : Addr} {rows : List TRow} (x : TDat a rows h) : ObjOk P w H h a (TD a rows) := by
  obtain ⟨z, hs, xs, r, o, es, ep, ho, hc⟩ := id x
  refine ⟨x, ⟨o, ho⟩, fun h1 h2 p k => ?_⟩
  obtain ⟨z', hs', xs', r', o', es', ep', ho', hc'⟩ := p
  exact ⟨z', hs', xs', r', o', es', ep', k o' ho', hc'⟩
theorem td_rd {P : Program} {w : World} {H : Hp} {h : Heap} {a : Addr} {rows : List TRow} (ok : HOk P w H h) (e : Rd H a (TD a rows)) : TDat a rows h := (show ObjOk P w H h a (TD a rows) from rd_of ok e).1
/-- the tuples of the keys are there -/
def KeysAt (K : PySem.W.Frag) (H : Hp) (rows : List TRow) : Prop := ∀ r, r ∈ rows → SqT K H r.2.1 (r.1.map V.int)
section
variable {X : Cx} {pins : List (Addr × Obj)} {σ : St} {H : Hp} {s : Shared} {a b : Addr} {rows : List TRow} {k : List Int}
theorem row_mem : ∀ {rows : List TRow} {xs : List (List Int × Addr × Value)}, Paired RowOk rows xs → ∀ x, x ∈ xs → ∃ r, r ∈ rows ∧ RowOk r x
  | _, _, .nil, _, h => nomatch h
  | _, _, .cons h t, x, hx => by
    rcases List.mem_cons.mp hx with rfl | hx
    · exact ⟨_, List.mem_cons_self, h⟩
    · obtain ⟨r, hr, h⟩ := row_mem t x hx
      exact ⟨r, List.mem_cons_of_mem _ hr, h⟩
theorem dofH (I : Inv X pins σ H s) (e : Rd H a (TD a rows)) (hk : KeysAt X.K H rows) : rows.length ≤ sizeLine ∧ (a == sysModules) = false ∧ ∃ xs, Paired RowOk rows xs ∧ s.heap.DictOfH (kT X.prog X.w) a xs := by
  obtain ⟨z, hs, xs, r, o, es, ep, h1, h2, h3, h4, h5⟩ := td_rd I.hok e
  refine ⟨z, hs, xs, r, o, es, ep, h1, h2, h3, h4, fun x hx => ?_, h5⟩
  obtain ⟨p, hp, e1, e2, _⟩ := row_mem r x hx
  have q := I.isT (hk p hp)
  rw [e1, e2] at q
  exact q
/-- what stands at a key -/
def lookR (rows : List TRow) (k : List Int) : Option V := (rows.find? fun r => decide (r.1 = k)).map (·.2.2)
theorem look_rel {k : List Int} : ∀ {rows : List TRow} {xs : List (List Int × Addr × Value)}, Paired RowOk rows xs → RelO (lookR rows k) ((atKey xs k).map (·.2))
  | _, _, .nil => True.intro
  | p :: ps, q :: qs, .cons h t => by
    obtain ⟨h1, _, h2⟩ := h
    by_cases e : p.1 = k
    · have e' : q.1 = k := h1.symm.trans e
      have b : atKey (q :: qs) k = some q.2 := by simp [atKey, List.find?_cons, e']
      have c : lookR (p :: ps) k = some p.2.2 := by simp [lookR, List.find?_cons, e]
      rw [b, c]
      exact h2
    · have e' : ¬ q.1 = k := fun z => e (h1.trans z)
      have b : atKey (q :: qs) k = atKey qs k := by simp [atKey, List.find?_cons, e']
      have c : lookR (p :: ps) k = lookR ps k := by simp [lookR, List.find?_cons, e]
      rw [b, c]
      exact look_rel t
def putR (rows : List TRow) (k : List Int) (b : Addr) (v : V) : List TRow := if (lookR rows k).isSome = true then rows.map (fun r => if r.1 = k then (r.1, r.2.1, v) else r) else rows ++ [(k, b, v)]
theorem row_repl {v : V} {u : Value} (rv : RelV v u) : ∀ {rows : List TRow} {xs : List (List Int × Addr × Value)}, Paired RowOk rows xs → Paired RowOk (rows.map fun r => if r.1 = k then (r.1, r.2.1, v) else r) (xs.map (putAt k u))
  | _, _, .nil => .nil
  | p :: ps, q :: qs, .cons h t => by
    rw [List.map_cons, List.map_cons]
    refine .cons ?_ (row_repl rv t)
    obtain ⟨h1, h2, h3⟩ := h
    unfold putAt
    by_cases e : p.1 = k
    · rw [if_pos e, if_pos (h1.symm.trans e)]; exact ⟨h1, h2, rv⟩
    · rw [if_neg e, if_neg (fun z => e (h1.trans z))]; exact ⟨h1, h2, h3⟩
theorem row_put {v : V} {u : Value} (rv : RelV v u) {xs : List (List Int × Addr × Value)} (r : Paired RowOk rows xs) : Paired RowOk (putR rows k b v) (storedH xs k b u) := by
  have e : (lookR rows k).isSome = (atKey xs k).isSome := by rw [(look_rel r).isSome_eq, Option.isSome_map]
  unfold putR storedH
  rw [e]
  by_cases q : (atKey xs k).isSome = true
  · rw [if_pos q, if_pos q]; exact row_repl rv r
  · rw [if_neg q, if_neg q]; exact Paired.snoc r ⟨rfl, rfl, rv⟩
theorem putR_len (rows : List TRow) (k : List Int) (b : Addr) (v : V) : (putR rows k b v).length ≤ rows.length + 1 := by
  unfold putR
  split
  · rw [List.length_map]; omega
  · simp
variable {v : V} {u r : Value} {A : Around} {E : Value → Shared → Prop}
/-- d[k] -/
theorem t_getItem {Q : Value → Shared → Prop} (hu : A.units + 1 < cLine) (I : Inv X pins σ H s) (e : Rd H a (TD a rows)) (hk : KeysAt X.K H rows) (eb : SqT X.K H b (k.map V.int)) (l : lookR rows k = some v) (h : ∀ w' s', Inv X pins σ H s' → RelV v w' → Q w' s') :
    wpAny (model X.prog X.w) A (getItem (.ref a) (.ref b)) Q E s := by
  obtain ⟨z, hd, xs, rel, dd⟩ := dofH I e hk
  obtain ⟨w', hw, rw'⟩ := RelO.some_of (v := v) (o := (atKey xs k).map (·.2)) (by rw [← l]; exact look_rel rel)
  obtain ⟨p, hp, hp2⟩ := Option.map_eq_some_iff.mp hw
  refine wpAny_getItem_heap (tupleKind_room_in1 hu) (I.isT eb) dd hp ?_
  rw [hp2]
  exact h w' _ (I.tok _) rw'
/-- d.get(k, x) -/
theorem t_get2 {x : V} {Q : Value → Shared → Prop} (hu : A.units + 1 < cLine) (I : Inv X pins σ H s) (e : Rd H a (TD a rows)) (hk : KeysAt X.K H rows) (eb : SqT X.K H b (k.map V.int)) (rx : RelV x r) (h : ∀ w' s', Inv X pins σ H s' → RelV ((lookR rows k).getD x) w' → Q w' s') :
    wpAny (model X.prog X.w) A (call (.builtin "dict.get") [.ref a, .ref b, r]) Q E s := by
  obtain ⟨z, hd, xs, rel, dd⟩ := dofH I e hk
  exact call_meetsIn PySem.F.slot_dict_get dd.typeIs PySem.F.entry_dict_get (PySem.F.args_dict_get_3 _ _ _) (meetsH_dict_get_default (kT X.prog X.w) a b hd r) ⟨tupleKind_room_in1 hu, k, xs, I.isT eb, dd, h _ _ (I.tok _) ((look_rel rel).getD rx)⟩
/-- d[k] = v -/
theorem t_setItem {Q : Unit → Shared → Prop} (hu : A.units + 1 < cLine) (I : Inv X pins σ H s) (e : H a = some (TD a rows)) (hk : KeysAt X.K H rows) (eb : SqT X.K H b (k.map V.int)) (hl : rows.length < sizeLine) (rv : RelV v r) (h : ∀ s', Inv X pins σ (upd H a (TD a (putR rows k b v))) s' → Q () s') :
    wpAny (model X.prog X.w) A (setItem (.ref a) (.ref b) r) Q E s := by
  obtain ⟨z, hd, xs, rel, dd⟩ := dofH I (.inl e) hk
  have hz : xs.length ≤ sizeLine := by rw [← Paired.length rel]; exact z
  refine wpAny_setItem_heap (hsz := hz) (tupleKind_room_in1 hu) (I.isT eb) dd fun h' dd' hs => h _ ?_
  obtain ⟨q, es, ep, hq, h2, h3, h4, _, h5⟩ := dd'
  refine d_write I (by rw [e]; exact True.intro) hs ⟨q, hq⟩ (td_ok ⟨?_, hd, _, row_put rv rel, q, es, ep, hq, h2, h3, h4, h5⟩)
  have := putR_len rows k b v
  omega
/-! ### the rules -/
theorem t_empty (h : Heap) (hb : sysModules < h.objs.size) : TDat h.objs.size [] (h.push { cls := .type "dict", data := .dict #[] }) :=
  ⟨Nat.zero_le _, beq_eq_false_iff_ne.mpr (Ne.symm (Nat.ne_of_lt hb)), [], .nil, _, #[], 0, Heap.get?_push_size _ rfl, ⟨rfl, rfl, rfl⟩, rfl, rfl, List.nodup_nil⟩
end
def tTNew : TE := fun _ H Q => ∀ p, H p = none → Q (.ref p) (upd H p (TD p []))
theorem pe_tnew {X : Cx} {pos : Pos} : PE X (.Dict [] [] pos) tTNew := ⟨fun pins s σ H Q I h =>
  wpAny_Dict_empty ⟨.ref s.heap.objs.size, _, I.laid (a := s.heap.objs.size) (o := TD s.heap.objs.size []) (t' := s.toks) (fun _ _ q => Heap.get?_push_of_some _ q) (Nat.le_refl _) (td_ok (t_empty s.heap I.big)), rfl, h _ (I.hok.fresh (Nat.le_refl _))⟩⟩
/-- the dict at a, its keys there -/
def TAt (K : PySem.W.Frag) (H : Hp) (a : Addr) (rows : List TRow) : Prop := Rd H a (TD a rows) ∧ KeysAt K H rows
theorem tat_type {X : Cx} {pins : List (Addr × Obj)} {σ : St} {H : Hp} {s : Shared} {a : Addr} {rows : List TRow} (I : Inv X pins σ H s) (d : Rd H a (TD a rows)) :
    s.TypeIs (.ref a) "dict" ∧ (∀ b, Value.ref a = .ref b → ∃ ob, s.heap.get? b = some ob ∧ ob.dict = none) ∧ (a == sysModules) = false := by
  obtain ⟨_, hd, xs, _, ob, _, _, h1, h2, _⟩ := td_rd I.hok d
  refine ⟨⟨ob, h1, h2.1⟩, fun b q => ?_, hd⟩
  cases q
  exact ⟨ob, h1, h2.2.1⟩
def tTGet (K : PySem.W.Frag) (td ty : TE) : TE := fun σ H Q => td σ H fun x H1 => ty σ H1 fun y H2 => ∃ a b rows k v, x = .ref a ∧ y = .ref b ∧ TAt K H2 a rows ∧ SqT K H2 b (k.map V.int) ∧ lookR rows k = some v ∧ Q v H2
def tTGet2 (K : PySem.W.Frag) (td ty tx : TE) : TE := fun σ H Q => td σ H fun x H1 => ∃ a, x = .ref a ∧ (∃ rows, Rd H1 a (TD a rows)) ∧ ty σ H1 fun y H2 => tx σ H2 fun z H3 => ∃ b rows k, y = .ref b ∧ TAt K H3 a rows ∧ SqT K H3 b (k.map V.int) ∧ Q ((lookR rows k).getD z) H3
def sTPut (K : PySem.W.Frag) (td ty tv : TE) : TS := fun D σ H => tv σ H fun v H1 => td σ H1 fun x H2 => ty σ H2 fun y H3 => ∃ a b rows k, x = .ref a ∧ y = .ref b ∧ H3 a = some (TD a rows) ∧ KeysAt K H3 rows ∧ SqT K H3 b (k.map V.int) ∧ rows.length < sizeLine ∧ D.nx σ (upd H3 a (TD a (putR rows k b v)))
section
variable {X : Cx} {o i f value : Expr} {pos pos' apos cpos : Pos} {td ty tv tx : TE}
theorem pe_tget (hu : X.A.units + 1 < cLine) (ho : PE X o td) (hi : PE X i ty) (hs : NoSl i) : PE X (.Subscript o i pos) (tTGet X.K td ty) := by
  refine ⟨fun pins s σ H Q I h => ?_⟩
  refine subD_of PySem.F.slot_dict_getitem.lookup hs (thn (ho.run pins s σ H _ I h) fun u s1 ⟨x, H1, I1, rx, q1⟩ => thn (hi.run pins s1 σ H1 _ I1 q1) fun iv s2 ⟨y, H2, I2, ry, a, b, rows, k, v, ex, ey, ta, eb, l, q2⟩ => ?_)
  subst ex ey
  obtain rfl : u = Value.ref a := rx
  obtain rfl : iv = Value.ref b := ry
  exact ⟨(tat_type I2 ta.1).1, t_getItem hu I2 ta.1 ta.2 eb l fun w' s3 I3 rw' => ⟨v, H2, I3, rw', q2⟩⟩
theorem ps_tput (hu : X.A.units + 1 < cLine) (ho : PE X o td) (hi : PE X i ty) (hv : PE X value tv) (hs : swapsWith value (some (.Subscript o i pos')) pos.line X.env = pure false) :
    PS X (.Assign [.Subscript o i pos'] value pos) (sTPut X.K td ty tv) := by
  refine ⟨fun pins s σ H D I h => ?_⟩
  refine wpAny_Assign_Subscript (thn (hv.run pins s σ H _ I h) fun r s1 ⟨v, H1, I1, rv, q1⟩ => thn (ho.run pins s1 σ H1 _ I1 q1) fun u s2 ⟨x, H2, I2, rx, q2⟩ => thn (hi.run pins s2 σ H2 _ I2 q2) fun iv s3 ⟨y, H3, I3, ry, a, b, rows, k, ex, ey, ea, hk, eb, hl, q3⟩ => ?_) hs
  subst ex ey
  obtain rfl : u = Value.ref a := rx
  obtain rfl : iv = Value.ref b := ry
  exact t_setItem hu I3 ea hk eb hl rv fun s4 I4 => ⟨σ, _, I4, q3⟩
theorem pe_tget2 (hu : X.A.units + 1 < cLine) (ho : PE X o td) (he : PE X i ty) (hf : PE X f tx) (m : M2 X o "get" apos i f cpos) : PE X (.Call (.Attribute o "get" apos) [i, f] [] cpos) (tTGet2 X.K td ty tx) := by
  refine ⟨fun pins s σ H Q I h => ?_⟩
  refine wpAny_Call_method m.base m.few m.line PySem.F.plainAttrs_dict PySem.F.slot_dict_get PySem.F.type_dict_get (thn (ho.run pins s σ H _ I h) fun u s1 ⟨x, H1, I1, rx, a, ex, ⟨rows0, d⟩, q1⟩ => ?_)
  subst ex
  obtain rfl : u = Value.ref a := rx
  obtain ⟨t1, t2, _⟩ := tat_type I1 d
  refine ⟨t1, t2, ?_⟩
  rw [m.trees]
  refine Calls.callWith_builtin rfl (Calls.evalArgs_plain (Calls.spliced_cons (thn (he.run pins s1 σ H1 _ I1 q1) fun iv s2 ⟨y, H2, I2, ry, q2⟩ =>
    Calls.spliced_cons (thn (hf.run pins s2 σ H2 _ I2 q2) fun fv s3 ⟨z, H3, I3, rz, b, rows, k, ey, ta, eb, q3⟩ => Calls.spliced_nil ?_))))
  subst ey
  obtain rfl : iv = Value.ref b := ry
  exact t_get2 hu I3 ta.1 ta.2 eb rz fun w' s4 I4 rw' => ⟨_, H3, I4, rw', q3⟩
end
end EVT

namespace EVT
open PySem PySem.Spec L2
open PyProof.Rows hiding St
/-! ### for k in d -/
def ItT (d : Addr) (o : Obj) (rows : List TRow) : It :=
  ⟨fun i H => H d = some (.frz o (TD d rows)) ∧ i < rows.length, fun i H x H' => H' = H ∧ ∃ r, rows[i]? = some r ∧ x = .ref r.2.1, fun i H => H d = some (.frz o (TD d rows)) ∧ rows.length ≤ i⟩
theorem paired_at : ∀ {rows : List TRow} {xs : List (List Int × Addr × Value)} {i : Nat} {r : TRow}, Paired RowOk rows xs → rows[i]? = some r → ∃ x, xs[i]? = some x ∧ RowOk r x
  | _, _, _, _, .nil, e => by simp at e
  | _, _, 0, _, .cons h _, e => by
    cases e
    exact ⟨_, rfl, h⟩
  | _, _, i + 1, _, .cons _ t, e => paired_at (i := i) t (by simpa using e)
theorem frzR {X : Cx} {pins : List (Addr × Obj)} {σ : St} {H : Hp} {s : Shared} {d : Addr} {o : Obj} {rows : List TRow} (I : Inv X pins σ H s) (h : H d = some (.frz o (TD d rows))) :
    (d == sysModules) = false ∧ s.heap.get? d = some o ∧ o.ExactDict ∧ ∃ (es : Array DictEntry) (ep : Nat), o.data = .dict es ep ∧ es.size = rows.length ∧
      ∀ (i : Nat) (r : TRow), rows[i]? = some r → ∃ en : DictEntry, es[i]? = some en ∧ en.key = .ref r.2.1 := by
  obtain ⟨hd, okx⟩ := I.hok d _ h
  obtain ⟨z, hs, xs, pr, o', es, ep, ho, hx, hdt, he, _⟩ := (show ObjOk X.prog X.w H s.heap d (TD d rows) from okx).1
  rw [hd] at ho
  cases ho
  have he' : es.toList = xs.map (entryOfKey (kT X.prog X.w)) := by rw [he, tEnts X.prog X.w]
  refine ⟨hs, hd, hx, es, ep, hdt, ?_, fun i r e => ?_⟩
  · have l1 : es.size = xs.length := size_of_entries he'
    have l2 : rows.length = xs.length := Paired.length pr
    omega
  · obtain ⟨x, hb, e1, e2, _⟩ := paired_at pr e
    have q := entry_at he' i
    rw [hb] at q
    exact ⟨_, q, by rw [e2]; rfl⟩
section
variable {P : Program} {w : World} {K : PySem.W.Frag} {tg : Expr} {d : Addr} {o : Obj} {es : Array DictEntry} {ep : Nat}
theorem turn_rows {rows : List TRow} (it : Addr) (hod : o.data = .dict es ep) : Turn P w K tg (ItT d o rows) [it] it (fun i h => h.IsKeyIter it d i rows.length ep) where
  mem := by simp
  obj := fun i h st b hb => by
    have e : b = it := by simpa using hb
    subst e
    obtain ⟨oi, e, c, dd⟩ := st
    exact ⟨oi, e, fun v z => by rw [dd] at z; cases z⟩
  keep := fun i h h' st k => st.at fun oi e => k it (by simp) oi e
  item := by
    intro X hP hw hK hc i pins s σ H E I hf st hg
    subst hP hw hK
    obtain ⟨hd, hi⟩ := hg
    obtain ⟨f0, f1, f2, f3, f4, f5⟩ := hf it (by simp)
    obtain ⟨hs, hgd, hx, es', ep', hdt, hsz, ent⟩ := frzR I hd
    obtain ⟨rfl, rfl⟩ := dict_ep hod hdt
    obtain ⟨r, hr⟩ : ∃ p, rows[i]? = some p := ⟨rows[i], List.getElem?_eq_getElem hi⟩
    obtain ⟨en, hen, hkey⟩ := ent i r hr
    refine next_key_item st hgd hdt hsz hen fun h' st' sb => ?_
    have I1 : Inv X pins σ H { s with heap := h' } := I.turned (t' := s.toks) (fun b ob hb e => (sb.2 b hb).trans e) f0 f1 f3 f4 f5
    obtain ⟨oi, e, c, dd⟩ := id st'
    exact ⟨en.key, rfl, go_of (s := { s with heap := h' }) e c dd (by decide) ⟨.ref r.2.1, H, I1, hkey, ⟨rfl, r, hr, rfl⟩, st', fun b hb => (hf b hb).1⟩⟩
  done := by
    intro X hP hw hK hc i pins s σ H E I hf st hg
    subst hP hw hK
    obtain ⟨hd, hi⟩ := hg
    obtain ⟨f0, f1, f2, f3, f4, f5⟩ := hf it (by simp)
    obtain ⟨hs, hgd, hx, es', ep', hdt, hsz, ent⟩ := frzR I hd
    obtain ⟨rfl, rfl⟩ := dict_ep hod hdt
    exact next_key_end (I.ok.hd hc) st hgd hdt hsz hi fun h' eb => ⟨rfl, I.turned (t' := s.toks) (fun b ob hb e => eb b ob hb e) f0 f1 f3 f4 f5⟩
  self := fun A i s Q E st h => wpAny_pyIter_keyiter st h
end
def iTKeys (td : TE) : TI := fun σ H R => td σ H fun x H1 => ∃ d o rows, x = .ref d ∧ H1 d = some (.frz o (TD d rows)) ∧ R (ItT d o rows) H1
theorem pi_tkeys {X : Cx} {tg e : Expr} {td : TE} (he : PE X e td) : PI X tg e (iTKeys td) := by
  refine ⟨fun pins s σ H R I h => ?_⟩
  refine thn (he.run pins s σ H _ I h) fun u s1 ⟨x, H1, I1, rx, d, o, rows, ex, hd, q⟩ => ?_
  subst ex
  obtain rfl : u = Value.ref d := rx
  obtain ⟨hs, hgd, hx, es, ep, hdt, hsz, ent⟩ := frzR I1 hd
  refine iter_keys hs hgd hx hdt (pi_one (tk := s1.toks) I1 _ (turn_rows _ hdt) ⟨_, Heap.get?_push_size _ rfl, rfl, ?_⟩ q)
  rw [hsz] <;> rfl
/-! ### {(..): v} -/
def mergeR (rows more : List TRow) : List TRow := more.foldl (fun acc r => putR acc r.1 r.2.1 r.2.2) rows
theorem row_merge : ∀ {more : List TRow} {ms : List (List Int × Addr × Value)} {rows : List TRow} {xs : List (List Int × Addr × Value)}, Paired RowOk more ms → Paired RowOk rows xs → Paired RowOk (mergeR rows more) (storedAllH xs ms)
  | _, _, _, _, .nil, h => h
  | p :: ps, q :: qs, rows, xs, .cons h t, h0 => by
    obtain ⟨h1, h2, h3⟩ := h
    have := row_merge t (row_put (k := p.1) (b := p.2.1) h3 h0)
    rw [show storedAllH xs (q :: qs) = storedAllH (storedH xs q.1 q.2.1 q.2.2) qs from rfl, ← h1, ← h2]
    exact this
theorem mergeR_len : ∀ (more rows : List TRow), (mergeR rows more).length ≤ rows.length + more.length
  | [], rows => by show rows.length ≤ rows.length + 0; omega
  | p :: r, rows => by
    have h1 := mergeR_len r (putR rows p.1 p.2.1 p.2.2)
    have h2 := putR_len rows p.1 p.2.1 p.2.2
    show (mergeR (putR rows p.1 p.2.1 p.2.2) r).length ≤ _
    rw [List.length_cons]; omega
section
variable {X : Cx} {pins : List (Addr × Obj)} {σ : St} {H : Hp} {s : Shared}
theorem carries_rows (I : Inv X pins σ H s) : ∀ {rows : List TRow} {ws : List (Value × Value)}, KeysAt X.K H rows → VV (rows.map fun r => (V.ref r.2.1, r.2.2)) ws → ∃ xs, CarriesH (kT X.prog X.w) s.heap ws xs ∧ Paired RowOk rows xs
  | [], _, _, r => by rw [List.map_nil] at r; cases r; exact ⟨[], trivial, .nil⟩
  | p :: rows, _, hk, r => by
    rw [List.map_cons] at r
    cases r with
    | @cons a b as bs h t =>
      obtain ⟨xs, c, q⟩ := carries_rows I (fun r hr => hk r (List.mem_cons_of_mem _ hr)) t
      obtain ⟨b1, b2⟩ := b
      obtain ⟨h1, h2⟩ := h
      exact ⟨(p.1, p.2.1, b2) :: xs, ⟨h1, rfl, I.isT (hk p List.mem_cons_self), c⟩, .cons ⟨rfl, rfl, h2⟩ q⟩
end
def tTDisp (K : PySem.W.Frag) (trs : List (TE × TE)) : TE := fun σ H Q => ∀ p, H p = none → tPairs trs σ (upd H p (TD p [])) fun ps H2 => H2 p = some (TD p []) ∧ ∃ rows : List TRow, ps = rows.map (fun r => (V.ref r.2.1, r.2.2)) ∧ KeysAt K H2 rows ∧ rows.length ≤ 15 ∧ Q (.ref p) (upd H2 p (TD p (mergeR [] rows)))
theorem pe_tdisp {X : Cx} {pos : Pos} {keys : List (Option Expr)} {values : List Expr} {trs : List (TE × TE)} (hu : X.A.units + 1 < cLine) (h : PPs X pos keys values trs) (hall : keys.all (·.isSome) = true) (hl : keys.length = values.length) (h0 : keys ≠ [])
    (h15 : keys.length ≤ 15) : PE X (.Dict keys values pos) (tTDisp X.K trs) := by
  refine ⟨fun pins s σ H Q I q => ?_⟩
  have hn := I.hok.fresh (Nat.le_refl s.heap.objs.size)
  have I1 := I.laid (a := s.heap.objs.size) (o := TD s.heap.objs.size []) (h' := s.heap.push { cls := .type "dict", data := .dict #[] }) (t' := s.toks) (fun _ _ q => Heap.get?_push_of_some _ q) (Nat.le_refl _) (td_ok (t_empty s.heap I.big))
  have hpn := pairTrees_length keys values X.env pos hall hl
  have hp0 : pairTrees keys values X.env pos ≠ [] := by
    intro he
    rw [he] at hpn
    exact h0 (List.length_eq_zero_iff.mp hpn.symm)
  rw [arm_eval_Dict, zip_pairTrees keys values X.env pos hall hl, dictDisplay_pairs _ hp0 (by rw [hpn]; omega)]
  refine wpAny_bind (wpAny_standAt (wpAny_bind (wpAny_subDictH (knd := kT X.prog X.w) (by show X.A.units < cLine; omega) (by rw [hpn]; exact h15)
    (thn (h.run pins _ σ _ _ I1 (q _ hn)) fun ws s2 ⟨ps, H2, I2, rel, e, rows, ep, hk, lk, q2⟩ => ?_))))
  subst ep
  obtain ⟨xs, c, rk⟩ := carries_rows I2 hk rel
  obtain ⟨z, hd, xs0, r0, dd⟩ := dofH I2 (.inl e) (fun _ h => nomatch h)
  cases r0
  refine ⟨xs, c, dd, fun h' tk dd' hs => wpAny_pure ⟨.ref s.heap.objs.size, _, ?_, rfl, q2⟩⟩
  have hz := mergeR_len rows []
  rw [List.length_nil] at hz
  obtain ⟨o, es, ep, ho, h2, h3, h4, _, h5⟩ := dd'
  exact d_write I2 (by rw [e]; exact True.intro) hs ⟨o, ho⟩ (td_ok ⟨by rw [sizeLine_eq]; omega, hd, _, row_merge rk .nil, o, es, ep, ho, h2, h3, h4, h5⟩)
end EVT

namespace EVT
open PySem PySem.Spec L2
open PyProof.Rows hiding St
/-! ### d == {}, d != {} -/
section
variable {prog : Program} {w : World} {A : Around} {E : Value → Shared → Prop} {s : Shared}
theorem same_empty {nm : String} {a b : Addr} {es : Array DictEntry} {ep ep' : Nat} {Q : Bool → Shared → Prop} (ha : (a == sysModules) = false) (hb : (b == sysModules) = false)
    (ra : s.heap.DictRaw a es ep) (rb : s.heap.DictRaw b #[] ep') (h : Q (es.size == 0) s) : wpAny (model prog w) A (Builtin.Dict.samePairs nm a b) Q E s := by
  obtain ⟨oa, hoa, _, hda⟩ := ra
  obtain ⟨ob, hob, _, hdb⟩ := rb
  unfold Builtin.Dict.samePairs Builtin.Dict.showsAll
  rw [if_neg (show ¬ (a == sysModules) = true by rw [ha]; exact Bool.false_ne_true), if_neg (show ¬ (b == sysModules) = true by rw [hb]; exact Bool.false_ne_true)]
  refine wpAny_bind (wpAny_pure (wpAny_bind (wpAny_pure ?_)))
  refine wpAny_bind (wpAny_dictEntries hoa hda ?_)
  dsimp only
  refine wpAny_bind (wpAny_dictEntries hob hdb ?_)
  by_cases hsz : es.size = 0
  case neg =>
    rw [if_pos (by simpa using hsz)]
    have hbf : (es.size == 0) = false := by simpa using hsz
    rw [hbf] at h
    exact wpAny_bind (wpAny_rule (wpAny_pure h))
  case pos =>
    have h' : Q true s := by simpa [hsz] using h
    rw [if_neg (by rw [hsz]; simp)]
    refine wpAny_bind (wpAny_dictEpoch hoa hda ?_)
    refine wpAny_bind ?_
    rw [Std.Legacy.Range.forIn_eq_forIn_range']
    simp only [Std.Legacy.Range.size, Nat.sub_zero, Nat.add_sub_cancel, Nat.div_one]
    rw [hsz]
    exact wpAny_pure (wpAny_pure h')
theorem raw_eq {a b : Addr} {es : Array DictEntry} {ep ep' : Nat} {Q : Value → Shared → Prop} (ha : (a == sysModules) = false) (hb : (b == sysModules) = false)
    (da : s.heap.DictRaw a es ep) (db : s.heap.DictRaw b #[] ep') (hu : A.units < cLine) (h : Q (.bool (es.size == 0)) s) : wpAny (model prog w) A (compareOp .Eq (.ref a) (.ref b)) Q E s := by
  refine wpAny_richCompare_same_room (op := .Eq) da.typeIs db.typeIs PySem.F.slot_dict_eq (wpAny_call_entry PySem.F.slot_dict_eq da.typeIs PySem.F.entry_dict_eq ?_ (PySem.F.args_dict_eq_2 _ _)) hu
  show wpAny _ _ (Builtin.Dict.dictSlotArgs "__eq__" ⟨[.ref a, .ref b], []⟩ >>= _) _ _ s
  refine wpAny_bind ?_
  unfold Builtin.Dict.dictSlotArgs
  refine wpAny_bind (wpAny_notOrdered_dict da.typeIs ?_)
  show wpAny _ _ (pure (Value.ref a, Value.ref b)) _ _ s
  refine wpAny_pure ?_
  refine wpAny_bind (wpAny_isInstance (T := "dict") db.typeIs PySem.F.sub_dict_dict ?_)
  simp only [Bool.not_true, Bool.false_eq_true, if_false]
  refine wpAny_bind (wpAny_pure (wpAny_bind (wpAny_pure ?_)))
  refine wpAny_bind (same_empty ha hb da db ?_)
  refine wpAny_pure ⟨_, rfl, ?_, ?_⟩
  · exact fun x => nomatch x
  · simpa using h
theorem raw_ne {a b : Addr} {es : Array DictEntry} {ep ep' : Nat} {Q : Value → Shared → Prop} (ha : (a == sysModules) = false) (hb : (b == sysModules) = false)
    (da : s.heap.DictRaw a es ep) (db : s.heap.DictRaw b #[] ep') (hu : A.units < cLine) (h : Q (.bool (!(es.size == 0))) s) : wpAny (model prog w) A (compareOp .NotEq (.ref a) (.ref b)) Q E s := by
  refine wpAny_richCompare_same_room (op := .NotEq) da.typeIs db.typeIs PySem.F.slot_dict_ne (wpAny_call_entry PySem.F.slot_dict_ne da.typeIs PySem.F.entry_dict_ne ?_ (PySem.F.args_dict_ne_2 _ _)) hu
  show wpAny _ _ (Builtin.Dict.dictSlotArgs "__ne__" ⟨[.ref a, .ref b], []⟩ >>= _) _ _ s
  refine wpAny_bind ?_
  unfold Builtin.Dict.dictSlotArgs
  refine wpAny_bind (wpAny_notOrdered_dict da.typeIs ?_)
  show wpAny _ _ (pure (Value.ref a, Value.ref b)) _ _ s
  refine wpAny_pure ?_
  refine wpAny_bind (wpAny_isInstance (T := "dict") db.typeIs PySem.F.sub_dict_dict ?_)
  simp only [Bool.not_true, Bool.false_eq_true, if_false]
  refine wpAny_bind (wpAny_pure (wpAny_bind (wpAny_pure ?_)))
  refine wpAny_bind (same_empty ha hb da db ?_)
  refine wpAny_pure ⟨_, rfl, ?_, ?_⟩
  · exact fun x => nomatch x
  · simpa using h
end
theorem td_raw {P : Program} {w : World} {H : Hp} {h : Heap} {a : Addr} {rows : List TRow} (ok : HOk P w H h) (e : Rd H a (TD a rows)) : (a == sysModules) = false ∧ ∃ xs, Paired RowOk rows xs ∧ ∃ es ep, h.DictRaw a es ep ∧ es.size = rows.length ∧ ∀ i (hi : i < es.size), ∃ y, xs[i]? = some y ∧ es[i].key = .ref y.2.1 ∧ es[i].val = y.2.2 := by
  obtain ⟨z, hs, xs, r, o, es, ep, h1, h2, h3, h4, h5⟩ := td_rd ok e
  have he' : es.toList = xs.map (entryOfKey (kT P w)) := by rw [h4, tEnts P w]
  have l1 : es.size = xs.length := size_of_entries he'
  have l2 : rows.length = xs.length := Paired.length r
  refine ⟨hs, xs, r, es, ep, ⟨o, h1, h2, h3⟩, by omega, fun i hi => ?_⟩
  have q := entry_at he' i
  rw [Array.getElem?_eq_getElem hi] at q
  obtain ⟨y, hy, e2⟩ := Option.map_eq_some_iff.mp q.symm
  exact ⟨y, hy, by rw [← e2]; rfl, by rw [← e2]; rfl⟩
def rEqT0 (neg : Bool) : R2 := fun x y H Q => ∃ a b rows, x = .ref a ∧ y = .ref b ∧ Rd H a (TD a rows) ∧ Rd H b (TD b []) ∧ Q (.bl (rows.isEmpty != neg)) H
theorem emp_size {rows : List TRow} {n : Nat} (h : n = rows.length) : (n == 0) = rows.isEmpty := by
  subst h
  cases rows <;> rfl
theorem raw_nil {h : Heap} {b : Addr} {es : Array DictEntry} {ep : Nat} (r : h.DictRaw b es ep) (z : es.size = 0) : h.DictRaw b #[] ep := by
  have : es = #[] := Array.eq_empty_of_size_eq_zero z
  rw [← this]
  exact r
theorem op_eqT0 {X : Cx} (hu : X.A.units + 64 < cLine) : OpR X (compareOp .Eq) (rEqT0 false) := by
  intro pins s σ H x y v u Q I rx ry h
  obtain ⟨a, b, rows, rfl, rfl, ha, hb, q⟩ := h
  cases rx
  cases ry
  obtain ⟨ha1, _, _, es, ep, ra, za, _⟩ := td_raw I.hok ha
  obtain ⟨hb1, _, _, es', ep', rb, zb, _⟩ := td_raw I.hok hb
  refine raw_eq ha1 hb1 ra (raw_nil rb zb) (by omega) ⟨_, H, I, ?_, q⟩
  rw [emp_size za]
  cases rows <;> rfl
theorem op_neT0 {X : Cx} (hu : X.A.units + 64 < cLine) : OpR X (compareOp .NotEq) (rEqT0 true) := by
  intro pins s σ H x y v u Q I rx ry h
  obtain ⟨a, b, rows, rfl, rfl, ha, hb, q⟩ := h
  cases rx
  cases ry
  obtain ⟨ha1, _, _, es, ep, ra, za, _⟩ := td_raw I.hok ha
  obtain ⟨hb1, _, _, es', ep', rb, zb, _⟩ := td_raw I.hok hb
  refine raw_ne ha1 hb1 ra (raw_nil rb zb) (by omega) ⟨_, H, I, ?_, q⟩
  rw [emp_size za]
  cases rows <;> rfl
/-! ### min(d.values()) -/
abbrev btT (ps : List PyData) : Nat → Nat → Bool := fun i j => PySem.W.dataLt (ps.getD i .none) (ps.getD j .none)
def tMinVT (K : PySem.W.Frag) (td : TE) : TE := fun σ H Q => td σ H fun x H1 => ∃ (a : Addr) (rows : List TRow) (ps : List PyData), x = V.ref a ∧ Rd H1 a (TD a rows) ∧ DpAll K H1 (rows.map (·.2.2)) ps ∧ PySem.W.AlikeAll ps ∧ PyData.depthAll ps ≤ 64 ∧ 0 < rows.length ∧
  ∀ v, (rows.map (·.2.2))[argBest (btT ps) (rows.length - 1)]? = some v → Q v H1
theorem row_vals : ∀ {rows : List TRow} {xs : List (List Int × Addr × Value)}, Paired RowOk rows xs → Vals (rows.map (·.2.2)) (xs.map (·.2.2))
  | _, _, .nil => .nil
  | _, _, .cons h t => .cons h.2.2 (row_vals t)
theorem vals_at' : ∀ {vs : List V} {us : List Value} {i : Nat} {u : Value}, Vals vs us → us[i]? = some u → ∃ v, vs[i]? = some v ∧ RelV v u
  | _, _, _, _, .nil, e => by simp at e
  | _, _, 0, _, .cons h _, e => by cases e; exact ⟨_, rfl, h⟩
  | _, _, i + 1, _, .cons _ t, e => vals_at' (i := i) t (by simpa using e)
variable {X : Cx} {o : Expr} {p apos mpos pos : Pos} {td : TE}
theorem pe_minVT (hc : X.calm = true) (hu : X.A.units + 65 < cLine) (hg : Gl X "min") (hm : X.mg "min" = none) (hd : PE X o td) (hbase : attributeBase o "values" X.env (eval o X.env) = eval o X.env := by rfl) (hline : (apos.endLine == mpos.line) = true := by rfl)
    (hse : starEach [Expr.Call (.Attribute o "values" apos) [] [] mpos] X.env = [(false, eval (Expr.Call (.Attribute o "values" apos) [] [] mpos) X.env)] := by rfl) :
    PE X (.Call (.Name "min" p) [.Call (.Attribute o "values" apos) [] [] mpos] [] pos) (tMinVT X.K td) := by
  refine ⟨fun pins s σ H Q I h => ?_⟩
  refine wpAny_Call_Name_kw (ld_blt I hg hm (u := .builtin "min") (by first | rfl | decide +kernel) ?_ (by first | decide +kernel | decide) (by first | decide +kernel | decide))
  rw [hse]
  refine PySem.callWith_builtin1 (wpAny_Call_method0_late hbase hline (thn (hd.run pins s σ H _ I h) fun v s1 ⟨x, H1, I1, r1, a, rows, ps, ex, ha, hdp, hal, hdep, hne, q⟩ => ?_))
  subst ex
  obtain rfl : v = Value.ref a := r1
  obtain ⟨hsys, vs, rel, es, ep, raw, hsz0, hx⟩ := td_raw I1.hok ha
  obtain ⟨ob, ho, ex, hdat⟩ := id raw
  refine ⟨"dict", "dict.values", F.plainAttrs_dict, F.slot_dict_values, F.type_dict_values, ⟨ob, ho, ex.1⟩, fun b e => ?_, Calls.callWith_builtin rfl (PySem.evalArgs_none ?_)⟩
  · cases e
    exact ⟨ob, ho, ex.2.1⟩
  refine call_meetsIn F.slot_dict_values ⟨ob, ho, ex.1⟩ F.entry_dict_values (F.args_dict_values_1 _) (meets_dict_values_raw a hsys) ⟨⟨es, ep, raw⟩, ?_⟩
  have k1 : ∀ b u, s1.heap.get? b = some u → (s1.heap.push { cls := .type "dict_values", data := .fields #[.ref a] }).get? b = some u := fun b u e => Heap.get?_push_of_some _ e
  have raw1 : (s1.heap.push { cls := .type "dict_values", data := .fields #[.ref a] }).DictRaw a es ep := raw.at fun o e => k1 a o e
  have rv := row_vals rel
  obtain ⟨as, hr⟩ := Dp.readsAll I1 ps _ _ hdp rv
  have hlv : vs.length = rows.length := (Paired.length rel).symm
  have hlt : a < s1.heap.objs.size := Heap.lt_size ho
  have hsz : (s1.heap.push { cls := .type "dict_values", data := .fields #[.ref a] }).objs.size = s1.heap.objs.size + 1 := Heap.size_push _ _
  have hcmp := PySem.W.cmpIn_lt (prog := X.prog) (w := X.w) (A := X.A.in1) (s := s1) (vs := (vs.map (·.2.2)).toArray) hr hal (by show X.A.units + 1 + _ < _; omega)
  refine call_min_walkH (wpAny_pyIter_values_raw (v := s1.heap.objs.size) (d := a) ⟨_, Heap.get?_push_size _ rfl, rfl, rfl⟩ raw1 ?_)
  refine ⟨_, _, _, _, es.size, fun i v => ∃ y, vs[i]? = some y ∧ v = y.2.2, _, s1.heap, btT ps, rfl, (Walks.valuesH (xs := vs) (A := X.A.in1) (I.ok.hd hc) (s1.heap.push { cls := .type "dict_values", data := .fields #[.ref a] }).objs.size a (by rw [hsz]; exact Nat.ne_of_lt (Nat.lt_succ_of_lt hlt)) es ep hx).toS,
    ⟨⟨_, Heap.get?_push_size _ rfl, rfl, rfl⟩, raw1.at fun u e => Heap.get?_push_of_some _ e⟩, fun b hb => ?_, by omega, fun b o e hb => ?_, fun b o e => Heap.get?_push_of_some _ (k1 b o e), fun i j vi vj s' Q' E' hk hi hj hq => ?_, fun v s' hP m => ?_⟩
  · show b < ((s1.heap.push _).push _).objs.size
    rw [Heap.size_push, Heap.size_push]
    rw [hsz] at hb
    rcases List.mem_cons.mp hb with e | hb
    · rw [e]
      exact Nat.lt_succ_self _
    · have e : b = a := List.mem_singleton.mp hb
      rw [e]
      exact Nat.lt_succ_of_lt (Nat.lt_succ_of_lt hlt)
  · have e1 : b = (s1.heap.push { cls := .type "dict_values", data := .fields #[.ref a] }).objs.size := List.mem_singleton.mp hb
    have e2 := Heap.lt_size e
    rw [hsz] at e1
    rw [e1] at e2
    exact absurd e2 (Nat.not_lt.mpr (Nat.le_succ _))
  · obtain ⟨y, hk1, rfl⟩ := hi
    obtain ⟨y', hk2, rfl⟩ := hj
    exact hcmp i j _ _ s' Q' E' hk (by simp [hk1]) (by simp [hk2]) hq
  · obtain ⟨h', tk, rfl, hk'⟩ := PySem.W.moved_old (s := { s1 with heap := s1.heap.push { cls := .type "dict_values", data := .fields #[.ref a] } }) rfl rfl m
    obtain ⟨y0, hk1, rfl⟩ := hP
    rw [hsz0] at hk1
    obtain ⟨y, h1, h2⟩ := vals_at' (i := argBest (btT ps) (rows.length - 1)) rv (by rw [List.getElem?_map, hk1]; rfl)
    exact ⟨y, H1, I1.kept fun b o e => hk' b o (k1 b o e), h2, q y h1⟩
end EVT

/-! EV: a layer of values without addresses over the hand layer: what an expression, a statement, a def makes, as a plain function of plain data -/
namespace EV
open PySem PySem.Spec L2 SX
open PyProof.Rows hiding St

abbrev Kd := Sum Int (List Nat)
/-- plain data -/
inductive D where
  | non | bl (b : Bool) | int (i : Int) | str (s : List Nat)
  | tup (xs : List D) | lst (xs : List D)
  | dk (kvs : List (Kd × D)) | dt (kvs : List (List Int × D))
  | fn (n : Nat)
  | scr (ns : List Int)
  deriving Inhabited

/-- what a piece of code comes to -/
inductive Res (α : Type) where
  | ok (a : α) | err (c : Nat) (p : D) | stuck
def Res.bind {α β : Type} : Res α → (α → Res β) → Res β
  | .ok a, f => f a
  | .err c p, _ => .err c p
  | .stuck, _ => .stuck
instance : Monad Res where
  pure := .ok
  bind := Res.bind
/-- an equation that simp is to write out -/
theorem nr {α : Sort _} {a b : α} (h : a = b) : a = b := h
@[simp] theorem ok_bind {α β : Type} (a : α) (f : α → Res β) : (Res.ok a >>= f) = f a := nr rfl
@[simp] theorem err_bind {α β : Type} (c : Nat) (p : D) (f : α → Res β) : ((Res.err c p : Res α) >>= f) = .err c p := nr rfl
@[simp] theorem stuck_bind {α β : Type} (f : α → Res β) : ((Res.stuck : Res α) >>= f) = .stuck := nr rfl
@[simp] theorem pure_ok {α : Type} (a : α) : (pure a : Res α) = .ok a := nr rfl
def Wp {α : Type} (r : Res α) (X : Nat → D → Prop) (Q : α → Prop) : Prop :=
  match r with
  | .ok a => Q a
  | .err c p => X c p
  | .stuck => False
theorem Wp.bind {α β : Type} {r : Res α} {f : α → Res β} {X : Nat → D → Prop} {Q : β → Prop} (h : Wp (r >>= f) X Q) : Wp r X (fun a => Wp (f a) X Q) := by
  cases r <;> exact h
theorem Wp.mono {α : Type} {r : Res α} {X X' : Nat → D → Prop} {Q Q' : α → Prop} (h : Wp r X Q) (hx : ∀ c p, X c p → X' c p) (hq : ∀ a, r = .ok a → Q a → Q' a) : Wp r X' Q' := by
  cases r with
  | ok a => exact hq a rfl h
  | err c p => exact hx c p h
  | stuck => exact h
def ofOpt {α : Type} : Option α → Res α
  | some a => .ok a
  | none => .stuck

/-! ### slots -/
abbrev Env := List (Option D)
def gt : Env → Nat → Option D
  | [], _ => none
  | x :: _, 0 => x
  | _ :: r, i + 1 => gt r i
def st : Env → Nat → Option D → Env
  | [], _, _ => []
  | _ :: r, 0, v => v :: r
  | x :: r, i + 1, v => x :: st r i v
theorem st_length : ∀ (ρ : Env) (i : Nat) (v : Option D), (st ρ i v).length = ρ.length
  | [], _, _ => rfl
  | _ :: _, 0, _ => rfl
  | _ :: r, i + 1, v => congrArg (· + 1) (st_length r i v)
theorem gt_st_same : ∀ (ρ : Env) (i : Nat) (v : Option D), i < ρ.length → gt (st ρ i v) i = v
  | [], _, _, h => absurd h (Nat.not_lt_zero _)
  | _ :: _, 0, _, _ => rfl
  | _ :: r, i + 1, v, h => gt_st_same r i v (Nat.lt_of_succ_lt_succ h)
theorem gt_st_none : ∀ (ρ : Env) (i : Nat), gt (st ρ i none) i = none
  | [], _ => rfl
  | _ :: _, 0 => rfl
  | _ :: r, i + 1 => gt_st_none r i
theorem gt_st_ne : ∀ (ρ : Env) (i j : Nat) (v : Option D), j ≠ i → gt (st ρ i v) j = gt ρ j
  | [], _, _, _, _ => rfl
  | _ :: _, 0, 0, _, h => absurd rfl h
  | _ :: _, 0, j + 1, _, _ => rfl
  | _ :: _, i + 1, 0, _, _ => rfl
  | _ :: r, i + 1, j + 1, v, h => gt_st_ne r i j v fun e => h (congrArg (· + 1) e)
theorem gt_lt : ∀ {ρ : Env} {i : Nat} {d : D}, gt ρ i = some d → i < ρ.length
  | [], _, _, h => nomatch h
  | _ :: _, 0, _, _ => Nat.succ_pos _
  | _ :: r, i + 1, _, h => Nat.succ_lt_succ (gt_lt (ρ := r) h)

/-! ### how data lies in the abstract heap; O: the addresses that a name owns -/
def kdK : Kd → Key
  | .inl i => .inl i
  | .inr s => .inr (S s)
theorem kdK_inj {k l : Kd} (h : kdK k = kdK l) : k = l := by
  cases k <;> cases l <;> simp [kdK] at h
  · rw [h]
  · rw [h]
def ShL (K : PySem.W.Frag) (O : Addr → Prop) (H : Hp) (a : Addr) (vs : List V) : Prop :=
  (¬ O a ∧ Rd H a (.lst vs)) ∨ ∃ (o : Obj) (its : Array Value) (n : Nat), K.lookup a = some o ∧ o.cls = .type "list" ∧ o.dict = none ∧ o.data = .seq its n ∧ its.size ≤ sizeLine ∧ Vals vs its.toList
def ShT (K : PySem.W.Frag) (O : Addr → Prop) (H : Hp) (a : Addr) (vs : List V) : Prop :=
  (¬ O a ∧ Rd H a (.tup vs) ∧ ∃ o : Obj, o.dict = none ∧ Rd H a (.frz o (.tup vs))) ∨ ((∃ (o : Obj) (its : Array Value) (n : Nat), K.lookup a = some o ∧ o.cls = .type "tuple" ∧ o.data = .seq its n ∧ its.size ≤ sizeLine ∧ Vals vs its.toList) ∧ ∃ o, K.lookup a = some o ∧ o.dict = none)
theorem ShT.fresh {K : PySem.W.Frag} {O : Addr → Prop} {H : Hp} {a : Addr} {o : Obj} {vs : List V} (n : ¬ O a) (e : H a = some (.frz o (.tup vs))) (d : o.dict = none) : ShT K O H a vs := .inl ⟨n, .inr ⟨o, e⟩, o, d, .inl e⟩
theorem ShL.sq {K : PySem.W.Frag} {O : Addr → Prop} {H : Hp} {a : Addr} {vs : List V} (h : ShL K O H a vs) : SqL K H a vs := h.imp And.right id
theorem ShT.sq {K : PySem.W.Frag} {O : Addr → Prop} {H : Hp} {a : Addr} {vs : List V} (h : ShT K O H a vs) : SqT K H a vs := h.imp (fun h => h.2.1) And.left

/-- code points -/
abbrev okS (s : List Nat) : Prop := ∀ c, c ∈ s → c < 1114112
mutual
inductive Rep (K : PySem.W.Frag) (T : Nat → Option Addr) (O : Addr → Prop) (H : Hp) : V → D → Prop
  | non : Rep K T O H .non .non
  | bl (b : Bool) : Rep K T O H (.bl b) (.bl b)
  | int (i : Int) : Rep K T O H (.int i) (.int i)
  | str (s : List Nat) (h : okS s) : Rep K T O H (.str (S s)) (.str s)
  | tup {a : Addr} {vs : List V} {ds : List D} : ShT K O H a vs → Reps K T O H vs ds → Rep K T O H (.ref a) (.tup ds)
  | lst {a : Addr} {vs : List V} {ds : List D} : ¬ O a → Rd H a (.lst vs) → Reps K T O H vs ds → Rep K T O H (.ref a) (.lst ds)
  | dk {a : Addr} {kvs : List (Key × V)} {kds : List (Kd × D)} : ¬ O a → Rd H a (.dK kvs) → RepK K T O H kvs kds → Rep K T O H (.ref a) (.dk kds)
  | dt {a : Addr} {kvs : List EVT.TRow} {kds : List (List Int × D)} : ¬ O a → Rd H a (EVT.TD a kvs) → RepT K T O H kvs kds → Rep K T O H (.ref a) (.dt kds)
  | fn {a : Addr} {n : Nat} : T n = some a → Rep K T O H (.ref a) (.fn n)
  | scr {a : Addr} {ns : List Int} : ShL K O H a (ns.map V.int) → Rep K T O H (.ref a) (.scr ns)
inductive Reps (K : PySem.W.Frag) (T : Nat → Option Addr) (O : Addr → Prop) (H : Hp) : List V → List D → Prop
  | nil : Reps K T O H [] []
  | cons {v : V} {d : D} {vs : List V} {ds : List D} : Rep K T O H v d → Reps K T O H vs ds → Reps K T O H (v :: vs) (d :: ds)
inductive RepK (K : PySem.W.Frag) (T : Nat → Option Addr) (O : Addr → Prop) (H : Hp) : List (Key × V) → List (Kd × D) → Prop
  | nil : RepK K T O H [] []
  | cons {k : Kd} {v : V} {d : D} {r : List (Key × V)} {rs : List (Kd × D)} : Rep K T O H v d → RepK K T O H r rs → RepK K T O H ((kdK k, v) :: r) ((k, d) :: rs)
inductive RepT (K : PySem.W.Frag) (T : Nat → Option Addr) (O : Addr → Prop) (H : Hp) : List EVT.TRow → List (List Int × D) → Prop
  | nil : RepT K T O H [] []
  | cons {k : List Int} {b : Addr} {v : V} {d : D} {r : List EVT.TRow} {rs : List (List Int × D)} : ShT K O H b (k.map V.int) → Rep K T O H v d → RepT K T O H r rs → RepT K T O H ((k, b, v) :: r) ((k, d) :: rs)
end

/-- from one moment to a later one -/
structure RA (O : Addr → Prop) (H : Hp) (O' : Addr → Prop) (H' : Hp) : Prop where
  st : ∀ a u, ¬ O a → Rd H a u → Rd H' a u
  on : ∀ a, O' a → O a ∨ H a = none
  dm : ∀ a, H a ≠ none → H' a ≠ none
theorem rd_some {H : Hp} {a : Addr} {u : HO} (h : Rd H a u) : H a ≠ none := by
  rcases h with h | ⟨o, h⟩ <;> rw [h] <;> exact fun e => nomatch e
theorem RA.refl (O : Addr → Prop) (H : Hp) : RA O H O H := ⟨fun _ _ _ h => h, fun _ h => .inl h, fun _ h => h⟩
theorem RA.trans {O O1 O2 : Addr → Prop} {H H1 H2 : Hp} (x : RA O H O1 H1) (y : RA O1 H1 O2 H2) : RA O H O2 H2 where
  st := fun a u no h => y.st a u (fun z => (x.on a z).elim no (rd_some h)) (x.st a u no h)
  on := fun a h => by
    rcases y.on a h with h | h
    · exact x.on a h
    · by_cases z : H a = none
      · exact .inr z
      · exact absurd h (x.dm a z)
  dm := fun a h => y.dm a (x.dm a h)
/-- nothing that is known changes -/
def Ex (H H' : Hp) : Prop := ∀ a o, H a = some o → H' a = some o
theorem Ex.refl (H : Hp) : Ex H H := fun _ _ h => h
theorem Ex.trans {H H1 H2 : Hp} (a : Ex H H1) (b : Ex H1 H2) : Ex H H2 := fun x o h => b x o (a x o h)
theorem Ex.new {H : Hp} {p : Addr} {o : HO} (h : H p = none) : Ex H (upd H p o) := fun a u e => by
  rw [upd_ne (ne_of_none e h)]
  exact e
theorem Ex.rd {H H' : Hp} {a : Addr} {u : HO} (e : Ex H H') (h : Rd H a u) : Rd H' a u := by
  rcases h with h | ⟨o, h⟩
  · exact .inl (e a _ h)
  · exact .inr ⟨o, e a _ h⟩
theorem Ex.dm {H H' : Hp} (e : Ex H H') (a : Addr) (h : H a ≠ none) : H' a ≠ none := by
  cases q : H a with
  | none => exact absurd q h
  | some o => rw [e a o q]; exact fun z => nomatch z
theorem Ex.ra {O : Addr → Prop} {H H' : Hp} (e : Ex H H') : RA O H O H' := ⟨fun _ _ _ h => e.rd h, fun _ h => .inl h, e.dm⟩
theorem ShL.adv {K : PySem.W.Frag} {O O' : Addr → Prop} {H H' : Hp} {a : Addr} {vs : List V} (x : RA O H O' H') (h : ShL K O H a vs) : ShL K O' H' a vs := by
  rcases h with ⟨n, h⟩ | h
  · exact .inl ⟨fun z => (x.on a z).elim n (rd_some h), x.st a _ n h⟩
  · exact .inr h
theorem ShT.adv {K : PySem.W.Frag} {O O' : Addr → Prop} {H H' : Hp} {a : Addr} {vs : List V} (x : RA O H O' H') (h : ShT K O H a vs) : ShT K O' H' a vs := by
  rcases h with ⟨n, h, o, hd, ho⟩ | h
  · exact .inl ⟨fun z => (x.on a z).elim n (rd_some h), x.st a _ n h, o, hd, x.st a _ n ho⟩
  · exact .inr h
section
variable {K : PySem.W.Frag} {T : Nat → Option Addr} {O O' : Addr → Prop} {H H' : Hp}
mutual
theorem Rep.adv (x : RA O H O' H') : ∀ (d : D) (v : V), Rep K T O H v d → Rep K T O' H' v d
  | .non, _, h => by cases h; exact .non
  | .bl b, _, h => by cases h; exact .bl b
  | .int i, _, h => by cases h; exact .int i
  | .str s, _, h => by
    cases h with
    | str _ hs => exact .str s hs
  | .tup ds, _, h => by
    cases h with
    | tup h1 h2 => exact .tup (h1.adv x) (Reps.adv x ds _ h2)
  | .lst ds, _, h => by
    cases h with
    | lst h0 h1 h2 => exact .lst (fun z => (x.on _ z).elim h0 (rd_some h1)) (x.st _ _ h0 h1) (Reps.adv x ds _ h2)
  | .dk ds, _, h => by
    cases h with
    | dk h0 h1 h2 => exact .dk (fun z => (x.on _ z).elim h0 (rd_some h1)) (x.st _ _ h0 h1) (RepK.adv x ds _ h2)
  | .dt ds, _, h => by
    cases h with
    | dt h0 h1 h2 => exact .dt (fun z => (x.on _ z).elim h0 (rd_some h1)) (x.st _ _ h0 h1) (RepT.adv x ds _ h2)
  | .fn n, _, h => by
    cases h with
    | fn h => exact .fn h
  | .scr ns, _, h => by
    cases h with
    | scr h => exact .scr (h.adv x)
theorem Reps.adv (x : RA O H O' H') : ∀ (ds : List D) (vs : List V), Reps K T O H vs ds → Reps K T O' H' vs ds
  | [], _, h => by cases h; exact .nil
  | d :: ds, _, h => by
    cases h with
    | cons h1 h2 => exact .cons (Rep.adv x d _ h1) (Reps.adv x ds _ h2)
theorem RepK.adv (x : RA O H O' H') : ∀ (ds : List (Kd × D)) (vs : List (Key × V)), RepK K T O H vs ds → RepK K T O' H' vs ds
  | [], _, h => by cases h; exact .nil
  | (k, d) :: ds, _, h => by
    cases h with
    | cons h1 h2 => exact .cons (Rep.adv x d _ h1) (RepK.adv x ds _ h2)
theorem RepT.adv (x : RA O H O' H') : ∀ (ds : List (List Int × D)) (vs : List EVT.TRow), RepT K T O H vs ds → RepT K T O' H' vs ds
  | [], _, h => by cases h; exact .nil
  | (k, d) :: ds, _, h => by
    cases h with
    | cons h0 h1 h2 => exact .cons (h0.adv x) (Rep.adv x d _ h1) (RepT.adv x ds _ h2)
end
end
/-- what may be changed, what is owned at all -/
structure MO where
  M : Addr → Prop
  O : Addr → Prop
  sub : ∀ a, M a → O a
/-- from one moment to a later one: what may not be changed stands as it was -/
structure Adv (m : MO) (H : Hp) (m' : MO) (H' : Hp) : Prop where
  st : ∀ a u, ¬ m.M a → H a = some u → H' a = some u
  mn : ∀ a, m'.M a → m.M a ∨ H a = none
  on : ∀ a, m'.O a → m.O a ∨ H a = none
  dm : ∀ a, H a ≠ none → H' a ≠ none
theorem some_ne {α : Type} {o : Option α} {x : α} (h : o = some x) : o ≠ none := by rw [h]; exact fun z => nomatch z
theorem Adv.refl (m : MO) (H : Hp) : Adv m H m H := ⟨fun _ _ _ h => h, fun _ h => .inl h, fun _ h => .inl h, fun _ h => h⟩
theorem Adv.trans {m m1 m2 : MO} {H H1 H2 : Hp} (x : Adv m H m1 H1) (y : Adv m1 H1 m2 H2) : Adv m H m2 H2 where
  st := fun a u no h => y.st a u (fun z => (x.mn a z).elim no (some_ne h)) (x.st a u no h)
  mn := fun a h => by
    rcases y.mn a h with h | h
    · exact x.mn a h
    · by_cases z : H a = none
      · exact .inr z
      · exact absurd h (x.dm a z)
  on := fun a h => by
    rcases y.on a h with h | h
    · exact x.on a h
    · by_cases z : H a = none
      · exact .inr z
      · exact absurd h (x.dm a z)
  dm := fun a h => y.dm a (x.dm a h)
theorem Adv.rd {m m' : MO} {H H' : Hp} (x : Adv m H m' H') {a : Addr} {u : HO} (n : ¬ m.M a) (h : Rd H a u) : Rd H' a u := by
  rcases h with h | ⟨o, h⟩
  · exact .inl (x.st a _ n h)
  · exact .inr ⟨o, x.st a _ n h⟩
theorem Adv.ra {m m' : MO} {H H' : Hp} (x : Adv m H m' H') : RA m.O H m'.O H' := ⟨fun a _ n h => x.rd (fun z => n (m.sub a z)) h, x.on, x.dm⟩
theorem Ex.adv {m : MO} {H H' : Hp} (e : Ex H H') : Adv m H m H' := ⟨fun a u _ h => e a u h, fun _ h => .inl h, fun _ h => .inl h, e.dm⟩
end EV

namespace EV
open PySem PySem.Spec L2 SX
open PyProof.Rows hiding St

/-- what a name of its own owns: a list or a dict that nothing else holds -/
def OwnAt (K : PySem.W.Frag) (T : Nat → Option Addr) (O : Addr → Prop) (H : Hp) (a : Addr) : D → Prop
  | .lst ds => ∃ vs, H a = some (.lst vs) ∧ Reps K T O H vs ds
  | .dk ds => ∃ kvs, H a = some (.dK kvs) ∧ RepK K T O H kvs ds
  | .dt ds => ∃ kvs, H a = some (EVT.TD a kvs) ∧ RepT K T O H kvs ds
  | _ => False
/-- fixed for a piece of code: the slots that own what they hold; the slots that are never stored; defs as values, classes of errors, their fields -/
structure ES where
  ow : List Nat
  fx : List Nat
  T : Nat → Option Addr
  cls : Nat → Value
  fld : Nat → Option Str
/-- fixed while it runs: the heap at the entry, what others own, the fixed slots' values, what is lent, what is locked -/
structure EC where
  H0 : Hp
  O0 : Addr → Prop
  fv : Nat → V
  bo : Addr → Prop
  lk : List (Addr × Obj × HO)
def EC.M (S : ES) (σ : St) (ρ : Env) : Addr → Prop := fun a => ∃ i, i ∈ S.ow ∧ gt ρ i ≠ none ∧ σ[i]? = some (some (.ref a))
def EC.O (C : EC) (S : ES) (σ : St) (ρ : Env) : Addr → Prop := fun a => C.O0 a ∨ EC.M S σ ρ a
abbrev EC.mo (C : EC) (S : ES) (σ : St) (ρ : Env) : MO := ⟨EC.M S σ ρ, C.O S σ ρ, fun _ h => .inr h⟩
abbrev ES.fix (S : ES) (i : Nat) : ES := { S with fx := i :: S.fx }
/-- new objects that nothing holds yet -/
abbrev EC.pl (C : EC) (ps : List Addr) : EC := { C with O0 := fun a => C.O0 a ∨ a ∈ ps }
theorem EC.pl_pl (C : EC) (ps qs : List Addr) : (C.pl ps).pl qs = C.pl (ps ++ qs) := by
  show EC.mk _ _ _ _ _ = EC.mk _ _ _ _ _
  congr 1
  funext a
  simp [or_assoc]
theorem EC.pl_nil (C : EC) : C.pl [] = C := by
  show EC.mk _ _ _ _ _ = C
  cases C
  congr 1
  funext a
  simp

structure ER (K : PySem.W.Frag) (S : ES) (C : EC) (σ : St) (H : Hp) (ρ : Env) : Prop where
  len : ρ.length = σ.length
  sh : ∀ i d, i ∉ S.ow → gt ρ i = some d → ∃ v, σ[i]? = some (some v) ∧ Rep K S.T (C.O S σ ρ) H v d
  own : ∀ i d, i ∈ S.ow → gt ρ i = some d → ∃ a, σ[i]? = some (some (.ref a)) ∧ OwnAt K S.T (C.O S σ ρ) H a d ∧ (i ∉ S.fx → C.H0 a = none ∧ ¬ C.O0 a) ∧ (C.bo a ∨ (C.H0 a = none ∧ ¬ C.O0 a))
  dis : ∀ i j a, i ∈ S.ow → j ∈ S.ow → gt ρ i ≠ none → gt ρ j ≠ none → σ[i]? = some (some (.ref a)) → σ[j]? = some (some (.ref a)) → i = j
  fx : ∀ i, i ∈ S.fx → σ[i]? = some (some (C.fv i))
  fr : ∀ a u, C.H0 a = some u → C.bo a ∨ H a = some u ∨ ∃ o, (a, o, u) ∈ C.lk
  dom : ∀ a, C.H0 a ≠ none → H a ≠ none
  lks : ∀ a o u, (a, o, u) ∈ C.lk → H a = some (.frz o u) ∧ Mut (some u)
  o0 : ∀ a, C.O0 a → ∃ u, Rd H a u ∧ Mut (some u)

section
variable {K : PySem.W.Frag} {S : ES} {C : EC} {σ : St} {H H' : Hp} {ρ : Env}

theorem OwnAt.adv {T : Nat → Option Addr} {O O' : Addr → Prop} {a : Addr} {d : D} (x : RA O H O' H') (e : H' a = H a) (h : OwnAt K T O H a d) : OwnAt K T O' H' a d := by
  cases d with
  | lst ds => obtain ⟨vs, h1, h2⟩ := h; exact ⟨vs, e.trans h1, h2.adv x⟩
  | dk ds => obtain ⟨vs, h1, h2⟩ := h; exact ⟨vs, e.trans h1, h2.adv x⟩
  | dt ds => obtain ⟨vs, h1, h2⟩ := h; exact ⟨vs, e.trans h1, h2.adv x⟩
  | _ => exact h.elim
theorem OwnAt.mut {T : Nat → Option Addr} {O : Addr → Prop} {a : Addr} {d : D} (h : OwnAt K T O H a d) : ∃ u, H a = some u ∧ Mut (some u) := by
  cases d with
  | lst ds => obtain ⟨vs, h1, h2⟩ := h; exact ⟨_, h1, trivial⟩
  | dk ds => obtain ⟨vs, h1, h2⟩ := h; exact ⟨_, h1, trivial⟩
  | dt ds => obtain ⟨vs, h1, h2⟩ := h; exact ⟨_, h1, trivial⟩
  | _ => exact h.elim
theorem gt_some {ρ : Env} {i : Nat} (h : gt ρ i ≠ none) : ∃ d, gt ρ i = some d := by
  cases q : gt ρ i with
  | none => exact absurd q h
  | some d => exact ⟨d, rfl⟩

/-- what the addresses of O hold may change -/
theorem ER.omut (E : ER K S C σ H ρ) : ∀ a, C.O S σ ρ a → ∃ u, Rd H a u ∧ Mut (some u) := fun a h => by
  rcases h with h | ⟨i, hi, hl, he⟩
  · exact E.o0 a h
  · obtain ⟨d, hd⟩ := gt_some hl
    obtain ⟨b, hb, ho, _⟩ := E.own i d hi hd
    rw [he] at hb
    obtain rfl : a = b := by simpa using hb
    obtain ⟨u, h1, h2⟩ := ho.mut
    exact ⟨u, .inl h1, h2⟩
theorem ER.osome (E : ER K S C σ H ρ) {a : Addr} (h : C.O S σ ρ a) : H a ≠ none := let ⟨_, h1, _⟩ := E.omut a h; rd_some h1
theorem not_mut_tup {H : Hp} {a : Addr} {u : HO} {vs : List V} (h : Rd H a u) (m : Mut (some u)) (e : H a = some (.tup vs)) : False := by
  rcases h with h | ⟨o, h⟩
  · rw [e] at h; cases h; exact m
  · rw [e] at h; cases h
theorem ER.notup (E : ER K S C σ H ρ) {a : Addr} {vs : List V} (e : H a = some (.tup vs)) : ¬ C.O S σ ρ a := fun h => by
  obtain ⟨u, h1, h2⟩ := E.omut a h
  exact not_mut_tup h1 h2 e
/-- new objects -/
theorem ER.ext (E : ER K S C σ H ρ) (x : Ex H H') : ER K S C σ H' ρ where
  len := E.len
  sh := fun i d hi hd => let ⟨v, h1, h2⟩ := E.sh i d hi hd; ⟨v, h1, h2.adv x.ra⟩
  own := fun i d hi hd => by
    obtain ⟨a, h1, h2, h3⟩ := E.own i d hi hd
    obtain ⟨u, hu, _⟩ := h2.mut
    exact ⟨a, h1, h2.adv x.ra ((x a u hu).trans hu.symm), h3⟩
  dis := E.dis
  fx := E.fx
  fr := fun a u h => (E.fr a u h).imp id fun h => h.imp (x a u) id
  dom := fun a h => x.dm a (E.dom a h)
  lks := fun a o u h => ⟨x a _ (E.lks a o u h).1, (E.lks a o u h).2⟩
  o0 := fun a h => let ⟨u, h1, h2⟩ := E.o0 a h; ⟨u, x.rd h1, h2⟩
theorem O_pl {ps : List Addr} {a : Addr} : (C.pl ps).O S σ ρ a ↔ C.O S σ ρ a ∨ a ∈ ps :=
  ⟨fun h => h.elim (fun h => h.elim (fun h => .inl (.inl h)) .inr) fun h => .inl (.inr h), fun h => h.elim (fun h => h.elim (fun h => .inl (.inl h)) fun h => .inr h) fun h => .inl (.inr h)⟩
theorem O_plus {p : Addr} {a : Addr} : (C.pl [p]).O S σ ρ a ↔ C.O S σ ρ a ∨ a = p := by rw [O_pl]; simp
/-- a new object that nothing holds yet -/
theorem ER.alloc {p : Addr} {u : HO} (E : ER K S C σ H ρ) (hp : H p = none) (mu : Mut (some u)) : ER K S (C.pl [p]) σ (upd H p u) ρ := by
  have x : Ex H (upd H p u) := Ex.new hp
  have av : RA (C.O S σ ρ) H ((C.pl [p]).O S σ ρ) (upd H p u) := ⟨fun a w _ h => x.rd h, fun a h => (O_plus.mp h).imp id fun (e : a = p) => by rw [e]; exact hp, x.dm⟩
  have h0p : ∀ a, C.H0 a ≠ none → a ≠ p := fun a h e => E.dom a h (e ▸ hp)
  refine ⟨E.len, fun i d hi hd => let ⟨v, h1, h2⟩ := E.sh i d hi hd; ⟨v, h1, h2.adv av⟩, fun i d hi hd => ?_, E.dis, E.fx, fun a w h => (E.fr a w h).imp id fun h => h.imp (x a w) id, fun a h => x.dm a (E.dom a h), fun a o w h => ⟨x a _ (E.lks a o w h).1, (E.lks a o w h).2⟩, fun a h => ?_⟩
  · obtain ⟨a, h1, h2, h3, h4⟩ := E.own i d hi hd
    obtain ⟨w, hw, _⟩ := h2.mut
    have nap : a ≠ p := fun e => by rw [e, hp] at hw; cases hw
    exact ⟨a, h1, h2.adv av ((x a w hw).trans hw.symm), fun q => ⟨(h3 q).1, fun z => z.elim (h3 q).2 fun e => nap (by simpa using e)⟩, h4.imp id fun q => ⟨q.1, fun z => z.elim q.2 fun e => nap (by simpa using e)⟩⟩
  · rcases h with h | h
    · obtain ⟨w, h1, h2⟩ := E.o0 a h
      exact ⟨w, x.rd h1, h2⟩
    · obtain rfl : a = p := by simpa using h
      exact ⟨u, .inl upd_same, mu⟩
theorem ra_unplus {ps : List Addr} : RA ((C.pl ps).O S σ ρ) H (C.O S σ ρ) H := ⟨fun _ _ _ h => h, fun a h => .inl (O_pl.mpr (.inl h)), fun _ h => h⟩
theorem adv_unplus {ps : List Addr} : Adv ((C.pl ps).mo S σ ρ) H (C.mo S σ ρ) H := ⟨fun _ _ _ h => h, fun _ h => .inl h, fun a h => .inl (O_pl.mpr (.inl h)), fun _ h => h⟩
theorem ER.unplus {ps : List Addr} (E : ER K S (C.pl ps) σ H ρ) : ER K S C σ H ρ :=
  ⟨E.len, fun i d hi hd => let ⟨v, h1, h2⟩ := E.sh i d hi hd; ⟨v, h1, h2.adv ra_unplus⟩,
    fun i d hi hd => let ⟨a, h1, h2, h3, h4⟩ := E.own i d hi hd; ⟨a, h1, h2.adv ra_unplus rfl, fun q => ⟨(h3 q).1, fun z => (h3 q).2 (.inl z)⟩, h4.imp id fun q => ⟨q.1, fun z => q.2 (.inl z)⟩⟩,
    E.dis, E.fx, E.fr, E.dom, E.lks, fun a h => E.o0 a (.inl h)⟩

/-! ### results of expressions -/
inductive DV where
  | val (d : D) | plc (i : Nat)
  deriving Inhabited
abbrev SE := Env → Res (DV × Env)
def deref (ρ : Env) : DV → Res D
  | .val d => .ok d
  | .plc i => ofOpt (gt ρ i)
def RV (K : PySem.W.Frag) (S : ES) (C : EC) (σ : St) (H : Hp) (ρ : Env) (v : V) : DV → Prop
  | .val d => Rep K S.T (C.O S σ ρ) H v d
  | .plc i => i ∈ S.ow ∧ σ[i]? = some (some v)
/-- it can be read -/
def RT (K : PySem.W.Frag) (T : Nat → Option Addr) (O : Addr → Prop) (H : Hp) (v : V) (d : D) : Prop := Rep K T O H v d ∨ ∃ a, v = .ref a ∧ OwnAt K T O H a d
theorem RV.adv {ρ' : Env} {v : V} {x : DV} (a : Adv (C.mo S σ ρ) H (C.mo S σ ρ') H') (h : RV K S C σ H ρ v x) : RV K S C σ H' ρ' v x := by
  cases x with
  | val d => exact Rep.adv a.ra d v h
  | plc i => exact h
theorem RV.rt {v : V} {x : DV} {d : D} (E : ER K S C σ H ρ) (h : RV K S C σ H ρ v x) (e : deref ρ x = .ok d) : RT K S.T (C.O S σ ρ) H v d := by
  cases x with
  | val d' => cases e; exact .inl h
  | plc i =>
    have e' : ofOpt (gt ρ i) = .ok d := e
    cases q : gt ρ i with
    | none => rw [q] at e'; cases e'
    | some d' =>
      rw [q] at e'; cases e'
      obtain ⟨a, h1, h2, _⟩ := E.own i _ h.1 q
      rw [h.2] at h1
      obtain rfl : v = .ref a := by simpa using h1
      exact .inr ⟨a, rfl, h2⟩
theorem OwnAt.rep {T : Nat → Option Addr} {O : Addr → Prop} {a : Addr} {d : D} (h : OwnAt K T O H a d) (n : ¬ O a) : Rep K T O H (.ref a) d := by
  cases d with
  | lst ds => obtain ⟨vs, h1, h2⟩ := h; exact .lst n (.inl h1) h2
  | dk ds => obtain ⟨vs, h1, h2⟩ := h; exact .dk n (.inl h1) h2
  | dt ds => obtain ⟨vs, h1, h2⟩ := h; exact .dt n (.inl h1) h2
  | _ => exact h.elim

/-! ### errors -/
/-- what is known of an error's own dict -/
def Pay (K : PySem.W.Frag) (S : ES) (O : Addr → Prop) (H : Hp) (c : Nat) (d : Option Addr) (p : D) : Prop :=
  ∀ f, S.fld c = some f → ∃ dx v, d = some dx ∧ H dx = some (.xd [(f, v)]) ∧ Rep K S.T O H v p
def XOk (K : PySem.W.Frag) (S : ES) (W : WX) (C : EC) (c : Nat) (p : D) : Prop :=
  ∀ d σ' H' ρ', ER K S C σ' H' ρ' → Pay K S (C.O S σ' ρ') H' c d p → W (S.cls c) d σ' H'
end

/-! ### the judgements -/
/-- an expression -/
def EvE (X : Cx) (S : ES) (W : WX) (e : Expr) (f : SE) : Prop :=
  ∃ t : TE, PE X e t ∧ ∀ (C : EC) (σ : St) (H : Hp) (ρ : Env) (Q : VK), ER X.K S C σ H ρ →
    Wp (f ρ) (XOk X.K S W C) (fun r => ∀ v H', ER X.K S C σ H' r.2 → Adv (C.mo S σ ρ) H (C.mo S σ r.2) H' → RV X.K S C σ H' r.2 v r.1 → Q v H') → t σ H Q
/-- an expression that makes a new list or dict -/
def EvF (X : Cx) (S : ES) (W : WX) (e : Expr) (f : Env → Res (D × Env)) : Prop :=
  ∃ t : TE, PE X e t ∧ ∀ (C : EC) (σ : St) (H : Hp) (ρ : Env) (Q : VK), ER X.K S C σ H ρ →
    Wp (f ρ) (XOk X.K S W C) (fun r => ∀ p H', H p = none → ¬ C.O S σ r.2 p → ER X.K S (C.pl [p]) σ H' r.2 → Adv (C.mo S σ ρ) H (C.mo S σ r.2) H' → OwnAt X.K S.T ((C.pl [p]).O S σ r.2) H' p r.1 → Q (.ref p) H') → t σ H Q
/-- a test -/
def EvT (X : Cx) (S : ES) (W : WX) (e : Expr) (f : Env → Res (Bool × Env)) : Prop :=
  ∃ t : TT, PT X e t ∧ ∀ (C : EC) (σ : St) (H : Hp) (ρ : Env) (Q : Bool → Hp → Prop), ER X.K S C σ H ρ →
    Wp (f ρ) (XOk X.K S W C) (fun r => ∀ H', ER X.K S C σ H' r.2 → Adv (C.mo S σ ρ) H (C.mo S σ r.2) H' → Q r.1 H') → t σ H Q
def EvW (X : Cx) (S : ES) (W : WX) (e : Expr) (f : Env → Res (Bool × Env)) : Prop :=
  ∃ t : TT, PW X e t ∧ ∀ (C : EC) (σ : St) (H : Hp) (ρ : Env) (Q : Bool → Hp → Prop), ER X.K S C σ H ρ →
    Wp (f ρ) (XOk X.K S W C) (fun r => ∀ H', ER X.K S C σ H' r.2 → Adv (C.mo S σ ρ) H (C.mo S σ r.2) H' → Q r.1 H') → t σ H Q
def RVs (K : PySem.W.Frag) (S : ES) (C : EC) (σ : St) (H : Hp) (ρ : Env) : List V → List DV → Prop
  | [], [] => True
  | v :: vs, x :: xs => RV K S C σ H ρ v x ∧ RVs K S C σ H ρ vs xs
  | _, _ => False
theorem RVs.adv {K : PySem.W.Frag} {S : ES} {C : EC} {σ : St} {H H' : Hp} {ρ ρ' : Env} (a : Adv (C.mo S σ ρ) H (C.mo S σ ρ') H') : ∀ {vs : List V} {xs : List DV}, RVs K S C σ H ρ vs xs → RVs K S C σ H' ρ' vs xs
  | [], [], _ => trivial
  | _ :: _, _ :: _, h => ⟨h.1.adv a, RVs.adv a h.2⟩
  | [], _ :: _, h => h.elim
  | _ :: _, [], h => h.elim
/-- an argument list -/
def EvA (X : Cx) (S : ES) (W : WX) (es : List Expr) (f : Env → Res (List DV × Env)) : Prop :=
  ∃ t : TA, PA X es t ∧ ∀ (C : EC) (σ : St) (H : Hp) (ρ : Env) (Q : List V → Hp → Prop), ER X.K S C σ H ρ →
    Wp (f ρ) (XOk X.K S W C) (fun r => ∀ vs H', ER X.K S C σ H' r.2 → Adv (C.mo S σ ρ) H (C.mo S σ r.2) H' → RVs X.K S C σ H' r.2 vs r.1 → Q vs H') → t σ H Q
inductive Fl where
  | nx | brk | cont | ret (d : D)
abbrev SS := Env → Res (Fl × Env)
def EndOk (K : PySem.W.Frag) (S : ES) (C : EC) (E : Ends) (fl : Fl) (ρ : Env) (σ : St) (H : Hp) : Prop :=
  match fl with
  | .nx => E.nx σ H
  | .brk => E.bk σ H
  | .cont => E.ct σ H
  | .ret d => ∀ v, Rep K S.T (C.O S σ ρ) H v d → E.rt v H
/-- a statement -/
def EvS (X : Cx) (S : ES) (W : WX) (s : Stmt) (f : SS) : Prop :=
  ∃ t : TS, PS X s t ∧ ∀ (C : EC) (σ : St) (H : Hp) (ρ : Env) (E : Ends), ER X.K S C σ H ρ →
    Wp (f ρ) (XOk X.K S W C) (fun r => ∀ σ' H', ER X.K S C σ' H' r.2 → Adv (C.mo S σ ρ) H (C.mo S σ' r.2) H' → EndOk X.K S C E r.1 r.2 σ' H') → t E σ H
def EvB (X : Cx) (S : ES) (W : WX) (s : List Stmt) (f : SS) : Prop :=
  ∃ t : TS, PSs X s t ∧ ∀ (C : EC) (σ : St) (H : Hp) (ρ : Env) (E : Ends), ER X.K S C σ H ρ →
    Wp (f ρ) (XOk X.K S W C) (fun r => ∀ σ' H', ER X.K S C σ' H' r.2 → Adv (C.mo S σ ρ) H (C.mo S σ' r.2) H' → EndOk X.K S C E r.1 r.2 σ' H') → t E σ H
/-- a target -/
def EvG (X : Cx) (S : ES) (ts : List Nat) (tg : Expr) (g : D → Env → Res Env) : Prop :=
  ∃ t : TG, PG X tg t ∧ ∀ (C : EC) (σ : St) (H : Hp) (ρ : Env) (v : V) (d : D) (Q : St → Hp → Prop), ER X.K S C σ H ρ → Rep X.K S.T (C.O S σ ρ) H v d →
    Wp (g d ρ) (fun _ _ => False) (fun ρ' => ∀ σ' H', ER X.K S C σ' H' ρ' → Adv (C.mo S σ ρ) H (C.mo S σ' ρ') H' → (∀ vs, (∀ i, i ∈ ts → i ∈ vs) → wipe σ' vs = wipe σ vs) → Q σ' H') → t v σ H Q
/-- what a walk gives, whatever the code between its turns does; m, H: where it began -/
structure ItD (K : PySem.W.Frag) (S : ES) (J : It) (xs : List D) (m : MO) (H : Hp) : Prop where
  go : ∀ (m1 : MO) H1 i, RA m.O H m1.O H1 → i < xs.length → J.go i H1
  stop : ∀ (m1 : MO) H1, RA m.O H m1.O H1 → J.stop xs.length H1
  yld : ∀ (C : EC) (S' : ES) σ H1 ρ i x H2 d, S'.T = S.T → ER K S' C σ H1 ρ → RA m.O H (C.O S' σ ρ) H1 → J.yld i H1 x H2 → xs[i]? = some d → Ex H1 H2 ∧ Rep K S'.T (C.O S' σ ρ) H2 x d
def EvI (X : Cx) (S : ES) (W : WX) (tg e : Expr) (f : Env → Res (List D × Env)) : Prop :=
  ∃ w : TI, PI X tg e w ∧ ∀ (C : EC) (σ : St) (H : Hp) (ρ : Env) (R : It → Hp → Prop), ER X.K S C σ H ρ →
    Wp (f ρ) (XOk X.K S W C) (fun r => ∀ J H', ER X.K S C σ H' r.2 → Adv (C.mo S σ ρ) H (C.mo S σ r.2) H' → ItD X.K S J r.1 (C.mo S σ r.2) H' → R J H') → w σ H R
end EV

namespace EV
open PySem PySem.Spec L2 SX
open PyProof.Rows hiding St

abbrev LIM : Nat := 16777216
theorem lim_eq : (sizeLine : Nat) = LIM := sizeLine_eq
/-- what O's addresses hold may change (so they are no tuples, and known) -/
abbrev OH (O : Addr → Prop) (H : Hp) : Prop := ∀ a, O a → ∃ u, Rd H a u ∧ Mut (some u)
theorem OH.fresh {O : Addr → Prop} {H : Hp} (h : OH O H) {p : Addr} (hp : H p = none) : ¬ O p := fun z => by
  obtain ⟨u, h1, _⟩ := h p z
  exact rd_some h1 hp
theorem OH.tup {O : Addr → Prop} {H : Hp} (h : OH O H) {p : Addr} {vs : List V} (hp : H p = some (.tup vs)) : ¬ O p := fun z => by
  obtain ⟨u, h1, h2⟩ := h p z
  exact not_mut_tup h1 h2 hp

theorem deref_wp {α : Type} {ρ : Env} {x : DV} {f : D → Res α} {X : Nat → D → Prop} {Q : α → Prop} (h : Wp (deref ρ x >>= f) X Q) : ∃ d, deref ρ x = .ok d ∧ Wp (f d) X Q := by
  cases x with
  | val d => exact ⟨d, rfl, h⟩
  | plc i =>
    have e : deref ρ (.plc i) = ofOpt (gt ρ i) := rfl
    rw [e] at h ⊢
    cases q : gt ρ i with
    | none => rw [q] at h; exact h.elim
    | some d => rw [q] at h; exact ⟨d, rfl, h⟩
theorem opt_wp {α β : Type} {o : Option β} {f : β → Res α} {X : Nat → D → Prop} {Q : α → Prop} (h : Wp (ofOpt o >>= f) X Q) : ∃ d, o = some d ∧ Wp (f d) X Q := by
  cases o with
  | none => exact h.elim
  | some d => exact ⟨d, rfl, h⟩

section
variable {X : Cx} {S : ES} {W : WX} {pos : Pos}

/-! ### names, constants -/
def eC (d : D) : SE := fun ρ => .ok (.val d, ρ)
def eVar (i : Nat) : SE := fun ρ => ofOpt (gt ρ i) >>= fun d => .ok (.val d, ρ)
def ePlc (i : Nat) : SE := fun ρ => ofOpt (gt ρ i) >>= fun _ => .ok (.plc i, ρ)
theorem ev_var {i : Nat} {x : Str} (ho : i ∉ S.ow) (hN : X.N[i]? = some x) (hv : Vis X.env.scope x) (hd : (x == ("__debug__" : Str)) = false := by decide) (hcd : (x == ("__classdict__" : Str)) = false := by decide) : EvE X S W (.Name x pos) (eVar i) := by
  refine ⟨tVar i, pe_var hN hv hd hcd, fun C σ H ρ Q E w => ?_⟩
  obtain ⟨d, e, w⟩ := opt_wp w
  obtain ⟨v, h1, h2⟩ := E.sh i d ho e
  exact ⟨v, h1, w v H E (.refl _ _) h2⟩
theorem ev_plc {i : Nat} {x : Str} (ho : i ∈ S.ow) (hN : X.N[i]? = some x) (hv : Vis X.env.scope x) (hd : (x == ("__debug__" : Str)) = false := by decide) (hcd : (x == ("__classdict__" : Str)) = false := by decide) : EvE X S W (.Name x pos) (ePlc i) := by
  refine ⟨tVar i, pe_var hN hv hd hcd, fun C σ H ρ Q E w => ?_⟩
  obtain ⟨d, e, w⟩ := opt_wp w
  obtain ⟨a, h1, _⟩ := E.own i d ho e
  exact ⟨.ref a, h1, w _ H E (.refl _ _) ⟨ho, h1⟩⟩
theorem ev_c {e : Expr} {v : V} {d : D} (h : PE X e (tC v)) (hr : ∀ O H, Rep X.K S.T O H v d) : EvE X S W e (eC d) :=
  ⟨tC v, h, fun C σ H ρ Q E w => w v H E (.refl _ _) (hr _ _)⟩
theorem ev_int {i j} : EvE X S W (.Constant (.int i) j pos) (eC (.int i)) := ev_c pe_int fun _ _ => .int i
theorem ev_bl {b j} : EvE X S W (.Constant (.bool b) j pos) (eC (.bl b)) := ev_c pe_bl fun _ _ => .bl b
theorem ev_non {j} : EvE X S W (.Constant .none j pos) (eC .non) := ev_c pe_non fun _ _ => .non
theorem ev_str {x : Str} {j} (s : List Nat) (h : x = SX.S s := by rfl) (hv : s.all (fun c => decide (c < 1114112)) = true := by decide) : EvE X S W (.Constant (.str x) j pos) (eC (.str s)) := by
  subst h
  exact ev_c pe_str fun _ _ => .str s fun c hc => of_decide_eq_true (List.all_eq_true.mp hv c hc)
/-- a name of the module, a def as a value -/
theorem ev_glob {x : Str} {v : V} {u : Value} {d : D} (hg : Gl X x) (hm : X.mg x = some u) (r : RelV v u) (hr : ∀ O H, Rep X.K S.T O H v d) (hd : (x == ("__debug__" : Str)) = false := by decide) : EvE X S W (.Name x pos) (eC d) := ev_c (pe_glob hg hm r hd) hr

/-! ### operations on values -/
/-- f does to data what g says -/
def OpD (X : Cx) (f : Value → Value → Sem Value) (g : D → D → Option D) : Prop :=
  ∃ r : R2, OpR X f r ∧ ∀ (T : Nat → Option Addr) (O : Addr → Prop) (H : Hp) v1 v2 d1 d2 d (Q : VK), OH O H → RT X.K T O H v1 d1 → RT X.K T O H v2 d2 → g d1 d2 = some d → (∀ v H', Ex H H' → Rep X.K T O H' v d → Q v H') → r v1 v2 H Q
def UnD (X : Cx) (f : Value → Sem Value) (g : D → Option D) : Prop :=
  ∃ r, UnR X f r ∧ ∀ (T : Nat → Option Addr) (O : Addr → Prop) (H : Hp) v1 d1 d (Q : VK), OH O H → RT X.K T O H v1 d1 → g d1 = some d → (∀ v H', Ex H H' → Rep X.K T O H' v d → Q v H') → r v1 H Q
def eBin (g : D → D → Option D) (f1 f2 : SE) : SE := fun ρ => f1 ρ >>= fun r1 => f2 r1.2 >>= fun r2 => deref r2.2 r1.1 >>= fun d1 => deref r2.2 r2.1 >>= fun d2 => ofOpt (g d1 d2) >>= fun d => .ok (.val d, r2.2)
def eUn (g : D → Option D) (f1 : SE) : SE := fun ρ => f1 ρ >>= fun r1 => deref r1.2 r1.1 >>= fun d1 => ofOpt (g d1) >>= fun d => .ok (.val d, r1.2)
variable {a b c : Expr} {fa fb fc : SE} {g g' : D → D → Option D}

theorem two {ta tb : TE} {σ : St} {H : Hp} {ρ : Env} {C : EC} {r : R2} {Q : VK}
    (qa : ∀ (C : EC) (σ : St) (H : Hp) (ρ : Env) (Q : VK), ER X.K S C σ H ρ → Wp (fa ρ) (XOk X.K S W C) (fun r => ∀ v H', ER X.K S C σ H' r.2 → Adv (C.mo S σ ρ) H (C.mo S σ r.2) H' → RV X.K S C σ H' r.2 v r.1 → Q v H') → ta σ H Q)
    (qb : ∀ (C : EC) (σ : St) (H : Hp) (ρ : Env) (Q : VK), ER X.K S C σ H ρ → Wp (fb ρ) (XOk X.K S W C) (fun r => ∀ v H', ER X.K S C σ H' r.2 → Adv (C.mo S σ ρ) H (C.mo S σ r.2) H' → RV X.K S C σ H' r.2 v r.1 → Q v H') → tb σ H Q)
    (qr : ∀ (T : Nat → Option Addr) (O : Addr → Prop) (H : Hp) v1 v2 d1 d2 d (Q : VK), OH O H → RT X.K T O H v1 d1 → RT X.K T O H v2 d2 → g d1 d2 = some d → (∀ v H', Ex H H' → Rep X.K T O H' v d → Q v H') → r v1 v2 H Q)
    (E : ER X.K S C σ H ρ) (w : Wp (eBin g fa fb ρ) (XOk X.K S W C) (fun r => ∀ v H', ER X.K S C σ H' r.2 → Adv (C.mo S σ ρ) H (C.mo S σ r.2) H' → RV X.K S C σ H' r.2 v r.1 → Q v H')) : tOp r ta tb σ H Q := by
  refine qa C σ H ρ _ E ((Wp.bind w).mono (fun _ _ h => h) fun r1 _ w1 v1 H1 E1 A1 R1 => ?_)
  refine qb C σ H1 r1.2 _ E1 ((Wp.bind w1).mono (fun _ _ h => h) fun r2 _ w2 v2 H2 E2 A2 R2 => ?_)
  obtain ⟨d1, e1, w3⟩ := deref_wp w2
  obtain ⟨d2, e2, w4⟩ := deref_wp w3
  obtain ⟨d, e, w5⟩ := opt_wp w4
  exact qr S.T _ H2 v1 v2 d1 d2 d Q E2.omut ((R1.adv A2).rt E2 e1) (R2.rt E2 e2) e fun v H' x rp => w5 v H' (E2.ext x) ((A1.trans A2).trans x.adv) rp
theorem ev_bin {op : Operator} (ho : OpD X (binaryOp op) g) (ha : EvE X S W a fa) (hb : EvE X S W b fb) : EvE X S W (.BinOp a op b pos) (eBin g fa fb) := by
  obtain ⟨ta, pa, qa⟩ := ha
  obtain ⟨tb, pb, qb⟩ := hb
  obtain ⟨r, hr, qr⟩ := ho
  exact ⟨_, pe_op hr pa pb, fun C σ H ρ Q E w => two qa qb qr E w⟩
theorem ev_un {op : UnaryOp} {g : D → Option D} (ho : UnD X (unaryOp op) g) (ha : EvE X S W a fa) : EvE X S W (.UnaryOp op a pos) (eUn g fa) := by
  obtain ⟨ta, pa, qa⟩ := ha
  obtain ⟨r, hr, qr⟩ := ho
  refine ⟨_, pe_un hr pa, fun C σ H ρ Q E w => ?_⟩
  refine qa C σ H ρ _ E ((Wp.bind w).mono (fun _ _ h => h) fun r1 _ w1 v1 H1 E1 A1 R1 => ?_)
  obtain ⟨d1, e1, w3⟩ := deref_wp w1
  obtain ⟨d, e, w5⟩ := opt_wp w3
  exact qr S.T _ H1 v1 d1 d Q E1.omut (R1.rt E1 e1) e fun v H' x rp => w5 v H' (E1.ext x) (A1.trans x.adv) rp
theorem ev_cmp {op : CmpOp} (ho : OpD X (compareOp op) g) (ha : EvE X S W a fa) (hb : EvE X S W b fb) (hm : behindInMarks op b = false) : EvE X S W (.Compare a [op] [b] pos) (eBin g fa fb) := by
  obtain ⟨ta, pa, qa⟩ := ha
  obtain ⟨tb, pb, qb⟩ := hb
  obtain ⟨r, hr, qr⟩ := ho
  exact ⟨_, pe_cmpR hr pa pb hm, fun C σ H ρ Q E w => two qa qb qr E w⟩
/-- a reading of a value as a test: the value is a bool -/
def asB : DV → Option Bool
  | .val (.bl b) => some b
  | _ => none
theorem RV.bl {C : EC} {σ : St} {H : Hp} {ρ : Env} {v : V} {x : DV} {k : Bool} (h : RV X.K S C σ H ρ v x) (e : asB x = some k) : v = .bl k := by
  cases x with
  | val d =>
    cases d with
    | bl k' =>
      have e' : some k' = some k := e
      cases e'
      have h' : Rep X.K S.T (C.O S σ ρ) H v (.bl k) := h
      cases h'
      rfl
    | _ => cases e
  | plc i => cases e
def tB (f : SE) : Env → Res (Bool × Env) := fun ρ => f ρ >>= fun r => ofOpt (asB r.1) >>= fun k => .ok (k, r.2)
theorem et_cmp {op : CmpOp} (ho : OpD X (compareOp op) g) (ha : EvE X S W a fa) (hb : EvE X S W b fb) (hm : behindInMarks op b = false) : EvT X S W (.Compare a [op] [b] pos) (tB (eBin g fa fb)) := by
  obtain ⟨ta, pa, qa⟩ := ha
  obtain ⟨tb, pb, qb⟩ := hb
  obtain ⟨r, hr, qr⟩ := ho
  refine ⟨_, pt_cmpR hr pa pb hm, fun C σ H ρ Q E w => ?_⟩
  refine two qa qb qr E ((Wp.bind w).mono (fun _ _ h => h) fun r1 _ w1 v1 H1 E1 A1 R1 => ?_)
  obtain ⟨k, ek, w2⟩ := opt_wp w1
  exact ⟨k, R1.bl ek, w2 H1 E1 A1⟩
/-- a op1 b op2 c -/
def eChain (g g' : D → D → Option D) (f1 f2 f3 : SE) : SE := fun ρ => f1 ρ >>= fun r1 => f2 r1.2 >>= fun r2 => deref r2.2 r1.1 >>= fun d1 => deref r2.2 r2.1 >>= fun d2 => ofOpt (g d1 d2) >>= fun d => ofOpt (asB (.val d)) >>= fun k =>
  bif k then f3 r2.2 >>= fun r3 => deref r3.2 r2.1 >>= fun d2' => deref r3.2 r3.1 >>= fun d3 => ofOpt (g' d2' d3) >>= fun d' => .ok (.val d', r3.2) else .ok (.val (.bl false), r2.2)
theorem chain_ok {ta tb tc : TE} {σ : St} {H : Hp} {ρ : Env} {C : EC} {r r' : R2} {Q : VK}
    (qa : ∀ (C : EC) (σ : St) (H : Hp) (ρ : Env) (Q : VK), ER X.K S C σ H ρ → Wp (fa ρ) (XOk X.K S W C) (fun r => ∀ v H', ER X.K S C σ H' r.2 → Adv (C.mo S σ ρ) H (C.mo S σ r.2) H' → RV X.K S C σ H' r.2 v r.1 → Q v H') → ta σ H Q)
    (qb : ∀ (C : EC) (σ : St) (H : Hp) (ρ : Env) (Q : VK), ER X.K S C σ H ρ → Wp (fb ρ) (XOk X.K S W C) (fun r => ∀ v H', ER X.K S C σ H' r.2 → Adv (C.mo S σ ρ) H (C.mo S σ r.2) H' → RV X.K S C σ H' r.2 v r.1 → Q v H') → tb σ H Q)
    (qc : ∀ (C : EC) (σ : St) (H : Hp) (ρ : Env) (Q : VK), ER X.K S C σ H ρ → Wp (fc ρ) (XOk X.K S W C) (fun r => ∀ v H', ER X.K S C σ H' r.2 → Adv (C.mo S σ ρ) H (C.mo S σ r.2) H' → RV X.K S C σ H' r.2 v r.1 → Q v H') → tc σ H Q)
    (qr : ∀ (T : Nat → Option Addr) (O : Addr → Prop) (H : Hp) v1 v2 d1 d2 d (Q : VK), OH O H → RT X.K T O H v1 d1 → RT X.K T O H v2 d2 → g d1 d2 = some d → (∀ v H', Ex H H' → Rep X.K T O H' v d → Q v H') → r v1 v2 H Q)
    (qr' : ∀ (T : Nat → Option Addr) (O : Addr → Prop) (H : Hp) v1 v2 d1 d2 d (Q : VK), OH O H → RT X.K T O H v1 d1 → RT X.K T O H v2 d2 → g' d1 d2 = some d → (∀ v H', Ex H H' → Rep X.K T O H' v d → Q v H') → r' v1 v2 H Q)
    (E : ER X.K S C σ H ρ) (w : Wp (eChain g g' fa fb fc ρ) (XOk X.K S W C) (fun r => ∀ v H', ER X.K S C σ H' r.2 → Adv (C.mo S σ ρ) H (C.mo S σ r.2) H' → RV X.K S C σ H' r.2 v r.1 → Q v H')) : tChain r r' ta tb tc σ H Q := by
  refine qa C σ H ρ _ E ((Wp.bind w).mono (fun _ _ h => h) fun r1 _ w1 v1 H1 E1 A1 R1 => ?_)
  refine qb C σ H1 r1.2 _ E1 ((Wp.bind w1).mono (fun _ _ h => h) fun r2 _ w2 v2 H2 E2 A2 R2 => ?_)
  obtain ⟨d1, e1, w3⟩ := deref_wp w2
  obtain ⟨d2, e2, w4⟩ := deref_wp w3
  obtain ⟨d, e, w5⟩ := opt_wp w4
  obtain ⟨k, ek, w6⟩ := opt_wp w5
  refine qr S.T _ H2 v1 v2 d1 d2 d _ E2.omut ((R1.adv A2).rt E2 e1) (R2.rt E2 e2) e fun v H' x rp => ?_
  have ev : v = .bl k := RV.bl (S := S) (C := C) (σ := σ) (ρ := r2.2) (x := .val d) rp ek
  refine ⟨k, ev, ?_⟩
  cases k with
  | false => exact w6 _ H' (E2.ext x) ((A1.trans A2).trans x.adv) (Rep.bl false)
  | true =>
    refine qc C σ H' r2.2 _ (E2.ext x) ((Wp.bind w6).mono (fun _ _ h => h) fun r3 _ w7 v3 H3 E3 A3 R3 => ?_)
    obtain ⟨d2', e2', w8⟩ := deref_wp w7
    obtain ⟨d3, e3, w9⟩ := deref_wp w8
    obtain ⟨d', e', w10⟩ := opt_wp w9
    exact qr' S.T _ H3 v2 v3 d2' d3 d' Q E3.omut ((R2.adv (x.adv.trans A3)).rt E3 e2') (R3.rt E3 e3) e' fun v H4 x4 rp => w10 v H4 (E3.ext x4) ((((A1.trans A2).trans x.adv).trans A3).trans x4.adv) rp
theorem ev_chain {op op' : CmpOp} (ho : OpD X (compareOp op) g) (ho' : OpD X (compareOp op') g') (ha : EvE X S W a fa) (hb : EvE X S W b fb) (hc : EvE X S W c fc) (hm : lastMarks [op, op'] [b, c] = false := by with_unfolding_all rfl) :
    EvE X S W (.Compare a [op, op'] [b, c] pos) (eChain g g' fa fb fc) := by
  obtain ⟨ta, pa, qa⟩ := ha
  obtain ⟨tb, pb, qb⟩ := hb
  obtain ⟨tc, pc, qc⟩ := hc
  obtain ⟨r, hr, qr⟩ := ho
  obtain ⟨r', hr', qr'⟩ := ho'
  exact ⟨_, pe_chain hr hr' pa pb pc hm, fun C σ H ρ Q E w => chain_ok qa qb qc qr qr' E w⟩
theorem et_chain {op op' : CmpOp} (ho : OpD X (compareOp op) g) (ho' : OpD X (compareOp op') g') (ha : EvE X S W a fa) (hb : EvE X S W b fb) (hc : EvE X S W c fc) (hm : lastMarks [op, op'] [b, c] = false := by with_unfolding_all rfl) :
    EvT X S W (.Compare a [op, op'] [b, c] pos) (tB (eChain g g' fa fb fc)) := by
  obtain ⟨ta, pa, qa⟩ := ha
  obtain ⟨tb, pb, qb⟩ := hb
  obtain ⟨tc, pc, qc⟩ := hc
  obtain ⟨r, hr, qr⟩ := ho
  obtain ⟨r', hr', qr'⟩ := ho'
  refine ⟨_, pt_chain hr hr' pa pb pc hm, fun C σ H ρ Q E w => ?_⟩
  refine chain_ok qa qb qc qr qr' E ((Wp.bind w).mono (fun _ _ h => h) fun r1 _ w1 v1 H1 E1 A1 R1 => ?_)
  obtain ⟨k, ek, w2⟩ := opt_wp w1
  exact ⟨k, R1.bl ek, w2 H1 E1 A1⟩

/-! ### truth, and, or, not, if -/
def truth : D → Option Bool
  | .non => some false
  | .bl b => some b
  | .int i => some (i != 0)
  | .str s => if s.length ≤ LIM then some (!s.isEmpty) else none
  | .tup xs => some (!xs.isEmpty)
  | .lst xs => some (!xs.isEmpty)
  | _ => none
theorem Reps.isEmpty {K : PySem.W.Frag} {T : Nat → Option Addr} {O : Addr → Prop} {H : Hp} {vs : List V} {ds : List D} (h : Reps K T O H vs ds) : vs.isEmpty = ds.isEmpty := by cases h <;> rfl
theorem Reps.length {K : PySem.W.Frag} {T : Nat → Option Addr} {O : Addr → Prop} {H : Hp} : ∀ {vs : List V} {ds : List D}, Reps K T O H vs ds → vs.length = ds.length
  | [], [], _ => rfl
  | _ :: _, _ :: _, .cons _ h => congrArg (· + 1) h.length
theorem RT.lst {K : PySem.W.Frag} {T : Nat → Option Addr} {O : Addr → Prop} {H : Hp} {v : V} {ds : List D} (h : RT K T O H v (.lst ds)) : ∃ a vs, v = .ref a ∧ Rd H a (.lst vs) ∧ Reps K T O H vs ds := by
  rcases h with h | ⟨a, rfl, h⟩
  · cases h with
    | lst h0 h1 h2 => exact ⟨_, _, rfl, h1, h2⟩
  · obtain ⟨vs, h1, h2⟩ := h
    exact ⟨a, vs, rfl, .inl h1, h2⟩
theorem RT.tup {K : PySem.W.Frag} {T : Nat → Option Addr} {O : Addr → Prop} {H : Hp} {v : V} {ds : List D} (h : RT K T O H v (.tup ds)) : ∃ a vs, v = .ref a ∧ ShT K O H a vs ∧ Reps K T O H vs ds := by
  rcases h with h | ⟨a, rfl, h⟩
  · cases h with
    | tup h1 h2 => exact ⟨_, _, rfl, h1, h2⟩
  · exact h.elim
theorem RT.int {K : PySem.W.Frag} {T : Nat → Option Addr} {O : Addr → Prop} {H : Hp} {v : V} {i : Int} (h : RT K T O H v (.int i)) : v = .int i := by
  rcases h with h | ⟨a, rfl, h⟩
  · cases h; rfl
  · exact h.elim
theorem RT.str {K : PySem.W.Frag} {T : Nat → Option Addr} {O : Addr → Prop} {H : Hp} {v : V} {s : List Nat} (h : RT K T O H v (.str s)) : v = .str (SX.S s) := by
  rcases h with h | ⟨a, rfl, h⟩
  · cases h; rfl
  · exact h.elim
theorem RT.okS {K : PySem.W.Frag} {T : Nat → Option Addr} {O : Addr → Prop} {H : Hp} {v : V} {s : List Nat} (h : RT K T O H v (.str s)) : okS s := by
  rcases h with h | ⟨a, rfl, h⟩
  · cases h; assumption
  · exact h.elim
theorem RT.bl {K : PySem.W.Frag} {T : Nat → Option Addr} {O : Addr → Prop} {H : Hp} {v : V} {b : Bool} (h : RT K T O H v (.bl b)) : v = .bl b := by
  rcases h with h | ⟨a, rfl, h⟩
  · cases h; rfl
  · exact h.elim
theorem RT.non {K : PySem.W.Frag} {T : Nat → Option Addr} {O : Addr → Prop} {H : Hp} {v : V} (h : RT K T O H v .non) : v = .non := by
  rcases h with h | ⟨a, rfl, h⟩
  · cases h; rfl
  · exact h.elim
theorem truth_ok {K : PySem.W.Frag} {T : Nat → Option Addr} {O : Addr → Prop} {H : Hp} {v : V} {d : D} {k : Bool} (h : RT K T O H v d) (e : truth d = some k) : TruV K v H k := by
  cases d with
  | non => cases e; rw [h.non]; exact rfl
  | bl b => cases e; rw [h.bl]; exact rfl
  | int i => cases e; rw [h.int]; exact rfl
  | str s =>
    have e' : (if s.length ≤ LIM then some (!s.isEmpty) else none) = some k := e
    split at e'
    · rename_i hl
      cases e'
      rw [h.str]
      refine ⟨by rw [S_len, lim_eq]; exact hl, ?_⟩
      rw [S_len]
      cases s with
      | nil => rfl
      | cons c r =>
        have q : ((((c :: r).length : Nat) : Int) != 0) = true := by
          rw [bne_iff_ne, List.length_cons]
          omega
        rw [q]
        rfl
    · cases e'
  | tup xs =>
    cases e
    obtain ⟨a, vs, rfl, h1, h2⟩ := h.tup
    exact .inr (.inl ⟨vs, h1.sq, by rw [h2.isEmpty]⟩)
  | lst xs =>
    cases e
    obtain ⟨a, vs, rfl, h1, h2⟩ := h.lst
    exact .inl ⟨vs, .inl h1, by rw [h2.isEmpty]⟩
  | _ => cases e
def tTru (f : SE) : Env → Res (Bool × Env) := fun ρ => f ρ >>= fun r => deref r.2 r.1 >>= fun d => ofOpt (truth d) >>= fun k => .ok (k, r.2)
theorem et_truth (ha : EvE X S W a fa) (he : ∀ whole, isTrue a X.env whole = (do let v ← whole; standAt a.pos; holding [v] (truthy v))) : EvT X S W a (tTru fa) := by
  obtain ⟨ta, pa, qa⟩ := ha
  refine ⟨_, pt_truth pa he, fun C σ H ρ Q E w => ?_⟩
  refine qa C σ H ρ _ E ((Wp.bind w).mono (fun _ _ h => h) fun r1 _ w1 v1 H1 E1 A1 R1 => ?_)
  obtain ⟨d, e, w2⟩ := deref_wp w1
  obtain ⟨k, ek, w3⟩ := opt_wp w2
  exact ⟨k, truth_ok (R1.rt E1 e) ek, w3 H1 E1 A1⟩
def tNot (f : Env → Res (Bool × Env)) : Env → Res (Bool × Env) := fun ρ => f ρ >>= fun r => .ok (!r.1, r.2)
theorem et_not {f} (ha : EvT X S W a f) : EvT X S W (.UnaryOp .Not a pos) (tNot f) := by
  obtain ⟨ta, pa, qa⟩ := ha
  refine ⟨_, pt_not pa, fun C σ H ρ Q E w => ?_⟩
  exact qa C σ H ρ _ E ((Wp.bind w).mono (fun _ _ h => h) fun r1 _ w1 H1 E1 A1 => w1 H1 E1 A1)
def tAnd (f g : Env → Res (Bool × Env)) : Env → Res (Bool × Env) := fun ρ => f ρ >>= fun r => bif r.1 then g r.2 else .ok (false, r.2)
def tOr (f g : Env → Res (Bool × Env)) : Env → Res (Bool × Env) := fun ρ => f ρ >>= fun r => bif r.1 then .ok (true, r.2) else g r.2
variable {rest : List Expr}
theorem EvW.t {f} (h : EvW X S W a f) : EvT X S W a f := let ⟨t, p, q⟩ := h; ⟨t, p.pt, q⟩
theorem ew_and1 {f} (ha : EvT X S W a f) : EvW X S W (.BoolOp .And [a] pos) f := let ⟨t, p, q⟩ := ha; ⟨t, pw_and1 p, q⟩
theorem ew_or1 {f} (ha : EvT X S W a f) : EvW X S W (.BoolOp .Or [a] pos) f := let ⟨t, p, q⟩ := ha; ⟨t, pw_or1 p, q⟩
theorem ew_and {f h} (ha : EvT X S W a f) (hb : EvW X S W (.BoolOp .And (b :: rest) pos) h) : EvW X S W (.BoolOp .And (a :: b :: rest) pos) (tAnd f h) := by
  obtain ⟨ta, pa, qa⟩ := ha
  obtain ⟨tb, pb, qb⟩ := hb
  refine ⟨_, pw_and pa pb, fun C σ H ρ Q E w => ?_⟩
  refine qa C σ H ρ _ E ((Wp.bind w).mono (fun _ _ h => h) fun r1 _ w1 H1 E1 A1 => ?_)
  obtain ⟨k, ρ1⟩ := r1
  cases k with
  | true => exact qb C σ H1 ρ1 Q E1 (w1.mono (fun _ _ h => h) fun r2 _ w2 H2 E2 A2 => w2 H2 E2 (A1.trans A2))
  | false => exact w1 H1 E1 A1
theorem ew_or {f h} (ha : EvT X S W a f) (hb : EvW X S W (.BoolOp .Or (b :: rest) pos) h) : EvW X S W (.BoolOp .Or (a :: b :: rest) pos) (tOr f h) := by
  obtain ⟨ta, pa, qa⟩ := ha
  obtain ⟨tb, pb, qb⟩ := hb
  refine ⟨_, pw_or pa pb, fun C σ H ρ Q E w => ?_⟩
  refine qa C σ H ρ _ E ((Wp.bind w).mono (fun _ _ h => h) fun r1 _ w1 H1 E1 A1 => ?_)
  obtain ⟨k, ρ1⟩ := r1
  cases k with
  | false => exact qb C σ H1 ρ1 Q E1 (w1.mono (fun _ _ h => h) fun r2 _ w2 H2 E2 A2 => w2 H2 E2 (A1.trans A2))
  | true => exact w1 H1 E1 A1
/-- .. as values -/
def eAnd (f g : SE) : SE := fun ρ => f ρ >>= fun r => ofOpt (asB r.1) >>= fun k => bif k then g r.2 else .ok (.val (.bl false), r.2)
def eOr (f g : SE) : SE := fun ρ => f ρ >>= fun r => ofOpt (asB r.1) >>= fun k => bif k then .ok (.val (.bl true), r.2) else g r.2
def eNot (f : SE) : SE := fun ρ => f ρ >>= fun r => ofOpt (asB r.1) >>= fun k => .ok (.val (.bl (!k)), r.2)
theorem ev_one {op} (h : EvE X S W a fa) : EvE X S W (.BoolOp op [a] pos) fa := let ⟨t, p, q⟩ := h; ⟨t, pe_one p, q⟩
theorem ev_and (ha : EvE X S W a fa) (hb : EvE X S W (.BoolOp .And (b :: rest) pos) fb) : EvE X S W (.BoolOp .And (a :: b :: rest) pos) (eAnd fa fb) := by
  obtain ⟨ta, pa, qa⟩ := ha
  obtain ⟨tb, pb, qb⟩ := hb
  refine ⟨_, pe_and pa pb, fun C σ H ρ Q E w => ?_⟩
  refine qa C σ H ρ _ E ((Wp.bind w).mono (fun _ _ h => h) fun r1 _ w1 v1 H1 E1 A1 R1 => ?_)
  obtain ⟨k, ek, w2⟩ := opt_wp w1
  refine ⟨k, R1.bl ek, ?_⟩
  cases k with
  | true => exact qb C σ H1 r1.2 Q E1 (w2.mono (fun _ _ h => h) fun r2 _ w3 v2 H2 E2 A2 R2 => w3 v2 H2 E2 (A1.trans A2) R2)
  | false => exact w2 _ H1 E1 A1 (Rep.bl false)
theorem ev_or (ha : EvE X S W a fa) (hb : EvE X S W (.BoolOp .Or (b :: rest) pos) fb) : EvE X S W (.BoolOp .Or (a :: b :: rest) pos) (eOr fa fb) := by
  obtain ⟨ta, pa, qa⟩ := ha
  obtain ⟨tb, pb, qb⟩ := hb
  refine ⟨_, pe_or pa pb, fun C σ H ρ Q E w => ?_⟩
  refine qa C σ H ρ _ E ((Wp.bind w).mono (fun _ _ h => h) fun r1 _ w1 v1 H1 E1 A1 R1 => ?_)
  obtain ⟨k, ek, w2⟩ := opt_wp w1
  refine ⟨k, R1.bl ek, ?_⟩
  cases k with
  | false => exact qb C σ H1 r1.2 Q E1 (w2.mono (fun _ _ h => h) fun r2 _ w3 v2 H2 E2 A2 R2 => w3 v2 H2 E2 (A1.trans A2) R2)
  | true => exact w2 _ H1 E1 A1 (Rep.bl true)
theorem ev_not (ha : EvE X S W a fa) : EvE X S W (.UnaryOp .Not a pos) (eNot fa) := by
  obtain ⟨ta, pa, qa⟩ := ha
  refine ⟨_, pe_not pa, fun C σ H ρ Q E w => ?_⟩
  refine qa C σ H ρ _ E ((Wp.bind w).mono (fun _ _ h => h) fun r1 _ w1 v1 H1 E1 A1 R1 => ?_)
  obtain ⟨k, ek, w2⟩ := opt_wp w1
  exact ⟨k, R1.bl ek, w2 _ H1 E1 A1 (Rep.bl _)⟩
def eIf (t : Env → Res (Bool × Env)) (f g : SE) : SE := fun ρ => t ρ >>= fun r => bif r.1 then f r.2 else g r.2
theorem ev_if {t} (hc : EvT X S W c t) (ha : EvE X S W a fa) (hb : EvE X S W b fb) : EvE X S W (.IfExp c a b pos) (eIf t fa fb) := by
  obtain ⟨tc, pc, qc⟩ := hc
  obtain ⟨ta, pa, qa⟩ := ha
  obtain ⟨tb, pb, qb⟩ := hb
  refine ⟨_, pe_ifExp pc pa pb, fun C σ H ρ Q E w => ?_⟩
  refine qc C σ H ρ _ E ((Wp.bind w).mono (fun _ _ h => h) fun r1 _ w1 H1 E1 A1 => ?_)
  obtain ⟨k, ρ1⟩ := r1
  cases k with
  | true => exact qa C σ H1 ρ1 Q E1 (w1.mono (fun _ _ h => h) fun r2 _ w3 v2 H2 E2 A2 R2 => w3 v2 H2 E2 (A1.trans A2) R2)
  | false => exact qb C σ H1 ρ1 Q E1 (w1.mono (fun _ _ h => h) fun r2 _ w3 v2 H2 E2 A2 R2 => w3 v2 H2 E2 (A1.trans A2) R2)

/-! ### arguments, displays -/
variable {es : List Expr} {fs : Env → Res (List DV × Env)}
def aNil : Env → Res (List DV × Env) := fun ρ => .ok ([], ρ)
def aCons (f : SE) (fs : Env → Res (List DV × Env)) : Env → Res (List DV × Env) := fun ρ => f ρ >>= fun r1 => fs r1.2 >>= fun r2 => .ok (r1.1 :: r2.1, r2.2)
theorem ea_nil : EvA X S W [] aNil := ⟨_, pa_nil, fun C σ H ρ Q E w => w [] H E (.refl _ _) trivial⟩
theorem ea_cons {e : Expr} {f : SE} (ha : EvE X S W e f) (hr : EvA X S W es fs) (hs : starEach (e :: es) X.env = (false, eval e X.env) :: starEach es X.env := by rfl) : EvA X S W (e :: es) (aCons f fs) := by
  obtain ⟨ta, pa, qa⟩ := ha
  obtain ⟨tr, pr, qr⟩ := hr
  refine ⟨_, pa_cons pa pr hs, fun C σ H ρ Q E w => ?_⟩
  refine qa C σ H ρ _ E ((Wp.bind w).mono (fun _ _ h => h) fun r1 _ w1 v1 H1 E1 A1 R1 => ?_)
  refine qr C σ H1 r1.2 _ E1 ((Wp.bind w1).mono (fun _ _ h => h) fun r2 _ w2 vs H2 E2 A2 R2 => ?_)
  exact w2 (v1 :: vs) H2 E2 (A1.trans A2) ⟨R1.adv A2, R2⟩
/-- all are values, none an owned place -/
def vals : List DV → Option (List D)
  | [] => some []
  | .val d :: r => (vals r).map (d :: ·)
  | .plc _ :: _ => none
theorem RVs.reps {C : EC} {σ : St} {H : Hp} {ρ : Env} : ∀ {vs : List V} {xs : List DV} {ds : List D}, RVs X.K S C σ H ρ vs xs → vals xs = some ds → Reps X.K S.T (C.O S σ ρ) H vs ds
  | [], [], ds, _, e => by cases e; exact .nil
  | v :: vs, .val d :: xs, ds, h, e => by
    have e' : (vals xs).map (d :: ·) = some ds := e
    cases q : vals xs with
    | none => rw [q] at e'; cases e'
    | some ds' =>
      rw [q] at e'
      obtain rfl : d :: ds' = ds := by simpa using e'
      exact .cons h.1 (RVs.reps h.2 q)
  | v :: vs, .plc i :: xs, ds, h, e => by cases e
  | [], _ :: _, _, h, _ => h.elim
  | _ :: _, [], _, h, _ => h.elim
def lim (n : Nat) : Option Unit := if n ≤ LIM then some () else none
theorem lim_ok {n : Nat} {u : Unit} (h : lim n = some u) : n ≤ sizeLine := by
  unfold lim at h
  split at h
  · rw [lim_eq]; assumption
  · cases h
def eTup (fs : Env → Res (List DV × Env)) : SE := fun ρ => fs ρ >>= fun r => ofOpt (vals r.1) >>= fun ds => ofOpt (lim ds.length) >>= fun _ => .ok (.val (.tup ds), r.2)
def fLst (fs : Env → Res (List DV × Env)) : Env → Res (D × Env) := fun ρ => fs ρ >>= fun r => ofOpt (vals r.1) >>= fun ds => ofOpt (lim ds.length) >>= fun _ => .ok (.lst ds, r.2)
theorem ev_tup {x1} (h : EvA X S W es fs) : EvE X S W (.Tuple es x1 pos) (eTup fs) := by
  obtain ⟨t, p, q⟩ := h
  refine ⟨_, EVN.pe_tupN p, fun C σ H ρ Q E w => ?_⟩
  refine q C σ H ρ _ E ((Wp.bind w).mono (fun _ _ h => h) fun r1 _ w1 vs H1 E1 A1 R1 => ?_)
  obtain ⟨ds, e, w2⟩ := opt_wp w1
  obtain ⟨u, e2, w3⟩ := opt_wp w2
  have rs := R1.reps e
  refine ⟨by rw [rs.length]; exact lim_ok e2, fun p o hp hd => ?_⟩
  have x : Ex H1 (upd H1 p (.frz o (.tup vs))) := Ex.new hp
  exact w3 _ _ (E1.ext x) (A1.trans x.adv) (Rep.tup (.fresh (OH.fresh E1.omut hp) upd_same hd) (rs.adv x.ra))
theorem ER.h0 {K : PySem.W.Frag} {C : EC} {σ : St} {H : Hp} {ρ : Env} (E : ER K S C σ H ρ) {p : Addr} (hp : H p = none) : C.H0 p = none := by
  cases q : C.H0 p with
  | none => rfl
  | some u => exact absurd hp (E.dom p (some_ne q))
theorem ra_plus {C : EC} {σ : St} {H H' : Hp} {ρ : Env} {p : Addr} (hp : H p = none) (x : Ex H H') : RA (C.O S σ ρ) H ((C.pl [p]).O S σ ρ) H' :=
  ⟨fun a w _ h => x.rd h, fun a h => (O_plus.mp h).imp id fun (e : a = p) => by rw [e]; exact hp, x.dm⟩
theorem adv_plus {C : EC} {σ : St} {H H' : Hp} {ρ : Env} {p : Addr} (hp : H p = none) (x : Ex H H') : Adv (C.mo S σ ρ) H ((C.pl [p]).mo S σ ρ) H' :=
  ⟨fun a w _ h => x a w h, fun _ h => .inl h, fun a h => (O_plus.mp h).imp id fun (e : a = p) => by rw [e]; exact hp, x.dm⟩
theorem Adv.back {m m' : MO} {H H' : Hp} (a : Adv m H m' H') {p : Addr} (h : H' p = none) : H p = none := by
  cases q : H p with
  | none => rfl
  | some u => exact absurd h (a.dm p (some_ne q))
theorem ef_lst (h : EvA X S W es fs) : EvF X S W (.List es pos) (fLst fs) := by
  obtain ⟨t, p, q⟩ := h
  refine ⟨_, pe_lst p, fun C σ H ρ Q E w => ?_⟩
  refine q C σ H ρ _ E ((Wp.bind w).mono (fun _ _ h => h) fun r1 _ w1 vs H1 E1 A1 R1 => ?_)
  obtain ⟨ds, e, w2⟩ := opt_wp w1
  obtain ⟨u, e2, w3⟩ := opt_wp w2
  have rs := R1.reps e
  refine ⟨by rw [rs.length]; exact lim_ok e2, fun p hp => ?_⟩
  have x : Ex H1 (upd H1 p (.lst vs)) := Ex.new hp
  exact w3 p _ (A1.back hp) (OH.fresh E1.omut hp) (E1.alloc hp trivial) (A1.trans x.adv) ⟨vs, upd_same, rs.adv (ra_plus hp x)⟩
/-- a new object as a value: it will not change -/
def eF (f : Env → Res (D × Env)) : SE := fun ρ => f ρ >>= fun r => .ok (.val r.1, r.2)
theorem ev_f {e : Expr} {f} (h : EvF X S W e f) : EvE X S W e (eF f) := by
  obtain ⟨t, p, q⟩ := h
  refine ⟨t, p, fun C σ H ρ Q E w => ?_⟩
  refine q C σ H ρ _ E ((Wp.bind w).mono (fun _ _ h => h) fun r1 _ w1 p H1 h0 no E1 A1 ow => ?_)
  exact w1 _ H1 E1.unplus A1 ((ow.adv ra_unplus rfl).rep no)
end
end EV

namespace EV
open PySem PySem.Spec L2 SX
open PyProof.Rows hiding St

/-! ### the relation under stores -/
section
variable {K : PySem.W.Frag} {S : ES} {C : EC} {σ : St} {H H' : Hp} {ρ ρ' : Env}
theorem sub_ra {O O' : Addr → Prop} (h : ∀ a, O' a → O a) : RA O H O' H := ⟨fun _ _ _ h => h, fun a z => .inl (h a z), fun _ h => h⟩
theorem M_weak (h : ∀ i, gt ρ' i = none ∨ gt ρ' i = gt ρ i) {a : Addr} (m : EC.M S σ ρ' a) : EC.M S σ ρ a := by
  obtain ⟨i, h1, h2, h3⟩ := m
  rcases h i with e | e
  · exact absurd e h2
  · exact ⟨i, h1, e ▸ h2, h3⟩
theorem O_weak (h : ∀ i, gt ρ' i = none ∨ gt ρ' i = gt ρ i) {a : Addr} (m : C.O S σ ρ' a) : C.O S σ ρ a := m.imp id (M_weak h)
theorem adv_weak (h : ∀ i, gt ρ' i = none ∨ gt ρ' i = gt ρ i) : Adv (C.mo S σ ρ) H (C.mo S σ ρ') H := ⟨fun _ _ _ h => h, fun a m => .inl (M_weak h m), fun a m => .inl (O_weak h m), fun _ h => h⟩
theorem ER.weak (E : ER K S C σ H ρ) (hl : ρ'.length = ρ.length) (h : ∀ i, gt ρ' i = none ∨ gt ρ' i = gt ρ i) : ER K S C σ H ρ' where
  len := hl.trans E.len
  sh := fun i d hi hd => by
    rcases h i with e | e
    · rw [e] at hd; cases hd
    · obtain ⟨v, h1, h2⟩ := E.sh i d hi (e ▸ hd)
      exact ⟨v, h1, h2.adv (sub_ra fun a => O_weak h)⟩
  own := fun i d hi hd => by
    rcases h i with e | e
    · rw [e] at hd; cases hd
    · obtain ⟨a, h1, h2, h3⟩ := E.own i d hi (e ▸ hd)
      exact ⟨a, h1, h2.adv (sub_ra fun a => O_weak h) rfl, h3⟩
  dis := fun i j a hi hj h1 h2 => by
    have li : gt ρ i ≠ none := (h i).elim (fun e => absurd e h1) fun e => e ▸ h1
    have lj : gt ρ j ≠ none := (h j).elim (fun e => absurd e h2) fun e => e ▸ h2
    exact E.dis i j a hi hj li lj
  fx := E.fx
  fr := E.fr
  dom := E.dom
  lks := E.lks
  o0 := E.o0
theorem kill_le (i : Nat) : ∀ j, gt (st ρ i none) j = none ∨ gt (st ρ i none) j = gt ρ j := fun j => by
  by_cases e : j = i
  · subst e; exact .inl (gt_st_none ρ j)
  · exact .inr (gt_st_ne ρ i j none e)
theorem gt_st_some {i j : Nat} {d d' : D} (h : gt (st ρ i (some d)) j = some d') : (j = i ∧ i < ρ.length ∧ d' = d) ∨ (j ≠ i ∧ gt ρ j = some d') := by
  by_cases e : j = i
  · subst e
    have hl := gt_lt h
    rw [st_length] at hl
    rw [gt_st_same ρ j _ hl] at h
    cases h
    exact .inl ⟨rfl, hl, rfl⟩
  · rw [gt_st_ne ρ i j _ e] at h
    exact .inr ⟨e, h⟩
theorem gt_st_live {i j : Nat} {d : D} (h : gt (st ρ i (some d)) j ≠ none) : (j = i ∧ i < ρ.length) ∨ (j ≠ i ∧ gt ρ j ≠ none) := by
  obtain ⟨d', e⟩ := gt_some h
  rcases gt_st_some e with ⟨a, b, _⟩ | ⟨a, b⟩
  · exact .inl ⟨a, b⟩
  · exact .inr ⟨a, some_ne b⟩
theorem set_at {i : Nat} {v : V} (h : i < σ.length) : (σ.set i (some v))[i]? = some (some v) := by rw [List.getElem?_set_self h]
/-- a shared slot is stored -/
theorem M_set_sh {i : Nat} {v : V} {d : D} (hi : i ∉ S.ow) {a : Addr} (m : EC.M S (σ.set i (some v)) (st ρ i (some d)) a) : EC.M S σ ρ a := by
  obtain ⟨j, h1, h2, h3⟩ := m
  have ne : j ≠ i := fun e => hi (e ▸ h1)
  rw [gt_st_ne ρ i j _ ne] at h2
  rw [List.getElem?_set_ne ne.symm] at h3
  exact ⟨j, h1, h2, h3⟩
theorem ER.set_sh {i : Nat} {v : V} {d : D} (E : ER K S C σ H ρ) (hi : i ∉ S.ow) (hf : i ∉ S.fx) (hr : Rep K S.T (C.O S σ ρ) H v d) : ER K S C (σ.set i (some v)) H (st ρ i (some d)) := by
  have ra : RA (C.O S σ ρ) H (C.O S (σ.set i (some v)) (st ρ i (some d))) H := sub_ra fun a z => z.imp id (M_set_sh hi)
  refine ⟨by rw [st_length, List.length_set]; exact E.len, fun j d' hj hd => ?_, fun j d' hj hd => ?_, fun j k a hj hk h1 h2 h3 h4 => ?_, fun j hj => ?_, E.fr, E.dom, E.lks, E.o0⟩
  · rcases gt_st_some hd with ⟨rfl, hl, rfl⟩ | ⟨ne, hd⟩
    · exact ⟨v, set_at (E.len ▸ hl), hr.adv ra⟩
    · obtain ⟨w, h1, h2⟩ := E.sh j d' hj hd
      exact ⟨w, by rw [List.getElem?_set_ne ne.symm]; exact h1, h2.adv ra⟩
  · have ne : j ≠ i := fun e => hi (e ▸ hj)
    rw [gt_st_ne ρ i j _ ne] at hd
    obtain ⟨a, h1, h2, h3⟩ := E.own j d' hj hd
    exact ⟨a, by rw [List.getElem?_set_ne ne.symm]; exact h1, h2.adv ra rfl, h3⟩
  · have n1 : j ≠ i := fun e => hi (e ▸ hj)
    have n2 : k ≠ i := fun e => hi (e ▸ hk)
    rw [gt_st_ne ρ i _ _ n1] at h1
    rw [gt_st_ne ρ i _ _ n2] at h2
    rw [List.getElem?_set_ne n1.symm] at h3
    rw [List.getElem?_set_ne n2.symm] at h4
    exact E.dis j k a hj hk h1 h2 h3 h4
  · have ne : j ≠ i := fun e => hf (e ▸ hj)
    rw [List.getElem?_set_ne ne.symm]
    exact E.fx j hj
theorem adv_set_sh {m : MO} {i : Nat} {v : V} {d : D} (hi : i ∉ S.ow) {H0 : Hp} (A : Adv m H0 (C.mo S σ ρ) H) : Adv m H0 (C.mo S (σ.set i (some v)) (st ρ i (some d))) H :=
  A.trans ⟨fun _ _ _ h => h, fun a z => .inl (M_set_sh hi z), fun a z => .inl (z.imp id (M_set_sh hi)), fun _ h => h⟩
/-- an owned slot takes a new object -/
theorem M_set_ow {i : Nat} {p : Addr} {d : D} {a : Addr} (m : EC.M S (σ.set i (some (.ref p))) (st ρ i (some d)) a) : EC.M S σ ρ a ∨ a = p := by
  obtain ⟨j, h1, h2, h3⟩ := m
  by_cases e : j = i
  · subst e
    have hl : j < σ.length := by
      have z : j < (σ.set j (some (V.ref p))).length := by
        rcases Nat.lt_or_ge j (σ.set j (some (V.ref p))).length with h | h
        · exact h
        · rw [List.getElem?_eq_none h] at h3; cases h3
      rwa [List.length_set] at z
    rw [set_at hl] at h3
    right
    have := Option.some.inj (Option.some.inj h3)
    exact (V.ref.inj this).symm
  · rw [gt_st_ne ρ i j _ e] at h2
    rw [List.getElem?_set_ne (Ne.symm e)] at h3
    exact .inl ⟨j, h1, h2, h3⟩
theorem ER.set_ow {i : Nat} {p : Addr} {ps : List Addr} {d : D} (E : ER K S (C.pl (p :: ps)) σ H ρ) (hi : i ∈ S.ow) (hf : i ∉ S.fx) (np : p ∉ ps) (h0 : C.H0 p = none) (no : ¬ C.O S σ ρ p) (how : OwnAt K S.T ((C.pl (p :: ps)).O S σ ρ) H p d) :
    ER K S (C.pl ps) (σ.set i (some (.ref p))) H (st ρ i (some d)) := by
  have os : ∀ a, (C.pl ps).O S (σ.set i (some (.ref p))) (st ρ i (some d)) a → (C.pl (p :: ps)).O S σ ρ a := fun a z => by
    rcases z with z | z
    · exact .inl (z.imp id fun m => List.mem_cons_of_mem _ m)
    · rcases M_set_ow z with z | rfl
      · exact .inr z
      · exact .inl (.inr List.mem_cons_self)
  have ra := sub_ra (H := H) os
  have nO0 : ¬ (C.pl ps).O0 p := fun z => z.elim (fun z => no (.inl z)) np
  refine ⟨by rw [st_length, List.length_set]; exact E.len, fun j d' hj hd => ?_, fun j d' hj hd => ?_, fun j k a hj hk h1 h2 h3 h4 => ?_, fun j hj => ?_, E.fr, E.dom, E.lks, fun a h => E.o0 a (h.imp id fun m => List.mem_cons_of_mem _ m)⟩
  · have ne : j ≠ i := fun e => hj (e ▸ hi)
    rw [gt_st_ne ρ i j _ ne] at hd
    obtain ⟨w, h1, h2⟩ := E.sh j d' hj hd
    exact ⟨w, by rw [List.getElem?_set_ne ne.symm]; exact h1, h2.adv ra⟩
  · rcases gt_st_some hd with ⟨rfl, hl, rfl⟩ | ⟨ne, hd⟩
    · exact ⟨p, set_at (E.len ▸ hl), how.adv ra rfl, fun _ => ⟨h0, nO0⟩, .inr ⟨h0, nO0⟩⟩
    · obtain ⟨a, h1, h2, h3, h4⟩ := E.own j d' hj hd
      have lift : ¬ (C.pl (p :: ps)).O0 a → ¬ (C.pl ps).O0 a := fun n z => n (z.imp id fun m => List.mem_cons_of_mem _ m)
      exact ⟨a, by rw [List.getElem?_set_ne ne.symm]; exact h1, h2.adv ra rfl, fun q => ⟨(h3 q).1, lift (h3 q).2⟩, h4.imp id fun q => ⟨q.1, lift q.2⟩⟩
  · by_cases n1 : j = i
    · by_cases n2 : k = i
      · rw [n1, n2]
      · subst n1
        have hl : j < σ.length := E.len ▸ (gt_st_live h1).elim (fun z => z.2) fun z => absurd rfl z.1
        rw [set_at hl] at h3
        obtain rfl : p = a := V.ref.inj (Option.some.inj (Option.some.inj h3))
        rw [gt_st_ne ρ j _ _ n2] at h2
        rw [List.getElem?_set_ne (Ne.symm n2)] at h4
        exact absurd (.inr ⟨k, hk, h2, h4⟩) no
    · by_cases n2 : k = i
      · subst n2
        have hl : k < σ.length := E.len ▸ (gt_st_live h2).elim (fun z => z.2) fun z => absurd rfl z.1
        rw [set_at hl] at h4
        obtain rfl : p = a := V.ref.inj (Option.some.inj (Option.some.inj h4))
        rw [gt_st_ne ρ k _ _ n1] at h1
        rw [List.getElem?_set_ne (Ne.symm n1)] at h3
        exact absurd (.inr ⟨j, hj, h1, h3⟩) no
      · rw [gt_st_ne ρ i _ _ n1] at h1
        rw [gt_st_ne ρ i _ _ n2] at h2
        rw [List.getElem?_set_ne (Ne.symm n1)] at h3
        rw [List.getElem?_set_ne (Ne.symm n2)] at h4
        exact E.dis j k a hj hk h1 h2 h3 h4
  · have ne : j ≠ i := fun e => hf (e ▸ hj)
    rw [List.getElem?_set_ne ne.symm]
    exact E.fx j hj
theorem adv_set_ow {m : MO} {i : Nat} {p : Addr} {ps : List Addr} {d : D} {H0 : Hp} (A : Adv m H0 ((C.pl (p :: ps)).mo S σ ρ) H) (hp : H0 p = none) : Adv m H0 ((C.pl ps).mo S (σ.set i (some (.ref p))) (st ρ i (some d))) H where
  st := A.st
  mn := fun a z => by
    rcases M_set_ow z with z | rfl
    · exact A.mn a z
    · exact .inr hp
  on := fun a z => by
    rcases z with z | z
    · exact A.on a (.inl (z.imp id fun m => List.mem_cons_of_mem _ m))
    · rcases M_set_ow z with z | rfl
      · exact A.on a (.inr z)
      · exact .inr hp
  dm := A.dm
/-- what an owned slot holds is changed -/
theorem M_mut {i : Nat} {d0 d : D} (hd : gt ρ i = some d0) {a : Addr} : EC.M S σ (st ρ i (some d)) a ↔ EC.M S σ ρ a := by
  constructor
  · rintro ⟨j, h1, h2, h3⟩
    rcases gt_st_live h2 with ⟨rfl, _⟩ | ⟨_, q⟩
    · exact ⟨j, h1, some_ne hd, h3⟩
    · exact ⟨j, h1, q, h3⟩
  · rintro ⟨j, h1, h2, h3⟩
    by_cases e : j = i
    · subst e
      exact ⟨j, h1, by rw [gt_st_same ρ j _ (gt_lt hd)]; exact some_ne rfl, h3⟩
    · exact ⟨j, h1, by rw [gt_st_ne ρ i j _ e]; exact h2, h3⟩
theorem ER.mut {i : Nat} {d0 d : D} {a : Addr} {u : HO} (E : ER K S C σ H ρ) (hi : i ∈ S.ow) (hd : gt ρ i = some d0) (hs : σ[i]? = some (some (.ref a))) (mu : Mut (some u)) (how : OwnAt K S.T (C.O S σ ρ) (upd H a u) a d) : ER K S C σ (upd H a u) (st ρ i (some d)) := by
  have oa : C.O S σ ρ a := .inr ⟨i, hi, some_ne hd, hs⟩
  have oeq : ∀ b, C.O S σ (st ρ i (some d)) b → C.O S σ ρ b := fun b z => z.imp id (M_mut hd).mp
  have ra : RA (C.O S σ ρ) H (C.O S σ (st ρ i (some d))) (upd H a u) := by
    refine ⟨fun b w n h => ?_, fun b z => .inl (oeq b z), fun b h => ?_⟩
    · have ne : b ≠ a := fun e => n (e ▸ oa)
      rcases h with h | ⟨o, h⟩
      · exact .inl (by rw [upd_ne ne]; exact h)
      · exact .inr ⟨o, by rw [upd_ne ne]; exact h⟩
    · by_cases e : b = a
      · subst e; rw [upd_same]; exact some_ne rfl
      · rw [upd_ne e]; exact h
  obtain ⟨b, e1, o1, f1, f2⟩ := E.own i d0 hi hd
  rw [hs] at e1
  obtain rfl : a = b := V.ref.inj (Option.some.inj (Option.some.inj e1))
  obtain ⟨w0, hw0, mw0⟩ := o1.mut
  refine ⟨by rw [st_length]; exact E.len, fun j d' hj hd' => ?_, fun j d' hj hd' => ?_, fun j k b hj hk h1 h2 h3 h4 => ?_, E.fx, fun b w h => ?_, fun b h => ?_, fun b o w h => ?_, fun b h => ?_⟩
  · have ne : j ≠ i := fun e => hj (e ▸ hi)
    rw [gt_st_ne ρ i j _ ne] at hd'
    obtain ⟨v, h1, h2⟩ := E.sh j d' hj hd'
    exact ⟨v, h1, h2.adv ra⟩
  · rcases gt_st_some hd' with ⟨rfl, hl, rfl⟩ | ⟨ne, hd'⟩
    · exact ⟨a, hs, how.adv (sub_ra oeq) rfl, f1, f2⟩
    · obtain ⟨b, h1, h2, h3⟩ := E.own j d' hj hd'
      have nb : b ≠ a := fun e => ne (E.dis j i a hj hi (some_ne hd') (some_ne hd) (e ▸ h1) hs)
      exact ⟨b, h1, h2.adv ra (upd_ne nb), h3⟩
  · have lv : ∀ {k}, gt (st ρ i (some d)) k ≠ none → gt ρ k ≠ none := fun {k} h => (gt_st_live h).elim (fun z => z.1 ▸ some_ne hd) fun z => z.2
    exact E.dis j k b hj hk (lv h1) (lv h2) h3 h4
  · by_cases e : b = a
    · subst e
      rcases f2 with f2 | f2
      · exact .inl f2
      · rw [f2.1] at h; cases h
    · rw [upd_ne e]; exact E.fr b w h
  · by_cases e : b = a
    · subst e; rw [upd_same]; exact some_ne rfl
    · rw [upd_ne e]; exact E.dom b h
  · have hb := E.lks b o w h
    have ne : b ≠ a := fun e => by
      subst e
      rw [hw0] at hb
      cases hb.1
      exact mw0
    exact ⟨by rw [upd_ne ne]; exact hb.1, hb.2⟩
  · by_cases e : b = a
    · subst e; exact ⟨u, .inl upd_same, mu⟩
    · obtain ⟨w, h1, h2⟩ := E.o0 b h
      refine ⟨w, ?_, h2⟩
      rcases h1 with h1 | ⟨o, h1⟩
      · exact .inl (by rw [upd_ne e]; exact h1)
      · exact .inr ⟨o, by rw [upd_ne e]; exact h1⟩
theorem adv_mut {i : Nat} {d0 d : D} {a : Addr} {u : HO} (hi : i ∈ S.ow) (hd : gt ρ i = some d0) (hs : σ[i]? = some (some (.ref a))) : Adv (C.mo S σ ρ) H (C.mo S σ (st ρ i (some d))) (upd H a u) where
  st := fun b w n h => by
    have ne : b ≠ a := fun e => n (by subst e; exact ⟨i, hi, some_ne hd, hs⟩)
    rw [upd_ne ne]; exact h
  mn := fun b z => .inl ((M_mut hd).mp z)
  on := fun b z => .inl (z.imp id (M_mut hd).mp)
  dm := fun b h => by
    by_cases e : b = a
    · subst e; rw [upd_same]; exact some_ne rfl
    · rw [upd_ne e]; exact h
/-- what a slot owned is let go: it will not change any more -/
theorem ER.move {i : Nat} {d : D} {a : Addr} (E : ER K S C σ H ρ) (hi : i ∈ S.ow) (hf : i ∉ S.fx) (hd : gt ρ i = some d) (hs : σ[i]? = some (some (.ref a))) : ER K S C σ H (st ρ i none) ∧ Rep K S.T (C.O S σ (st ρ i none)) H (.ref a) d := by
  refine ⟨E.weak (st_length _ _ _) (kill_le i), ?_⟩
  obtain ⟨b, e1, o1, f1, f2⟩ := E.own i d hi hd
  rw [hs] at e1
  obtain rfl : a = b := V.ref.inj (Option.some.inj (Option.some.inj e1))
  refine (o1.adv (sub_ra fun b => O_weak (kill_le i)) rfl).rep fun z => ?_
  rcases z with z | ⟨j, h1, h2, h3⟩
  · exact (f1 hf).2 z
  · by_cases e : j = i
    · subst e; rw [gt_st_none] at h2; exact h2 rfl
    · rw [gt_st_ne ρ i j _ e] at h2
      exact e (E.dis j i a h1 hi h2 (some_ne hd) h3 hs)
end

section
variable {X : Cx} {S : ES} {W : WX} {pos : Pos}
/-- a place given away -/
def eMv (i : Nat) (f : SE) : SE := fun ρ => f ρ >>= fun r => match r.1 with
  | .val d => .ok (.val d, r.2)
  | .plc j => if j = i then ofOpt (gt r.2 i) >>= fun d => .ok (.val d, st r.2 i none) else .stuck
theorem ev_mv {e : Expr} {f : SE} {i : Nat} (hf : i ∉ S.fx) (h : EvE X S W e f) : EvE X S W e (eMv i f) := by
  obtain ⟨t, p, q⟩ := h
  refine ⟨t, p, fun C σ H ρ Q E w => ?_⟩
  refine q C σ H ρ _ E ((Wp.bind w).mono (fun _ _ h => h) fun r1 _ w1 v H1 E1 A1 R1 => ?_)
  obtain ⟨x, ρ1⟩ := r1
  cases x with
  | val d => exact w1 v H1 E1 A1 R1
  | plc j =>
    have w1 : Wp (if j = i then ofOpt (gt ρ1 i) >>= fun d => (Res.ok (DV.val d, st ρ1 i none) : Res (DV × Env)) else .stuck) _ _ := w1
    split at w1
    · rename_i e
      subst e
      obtain ⟨d, ed, w2⟩ := opt_wp w1
      obtain ⟨hi, hs⟩ : j ∈ S.ow ∧ σ[j]? = some (some v) := R1
      obtain ⟨a, e1, _⟩ := E1.own j d hi ed
      rw [hs] at e1
      obtain rfl : v = .ref a := Option.some.inj (Option.some.inj e1)
      obtain ⟨E2, R2⟩ := E1.move hi hf ed hs
      exact w2 _ H1 E2 (A1.trans (adv_weak (kill_le j))) R2
    · exact w1.elim

/-! ### statements -/
variable {stm : Stmt} {rest : List Stmt} {f g : SS} {e : Expr} {fe : SE}
def bNil : SS := fun ρ => .ok (.nx, ρ)
def bCons (f g : SS) : SS := fun ρ => f ρ >>= fun r => match r.1 with
  | .nx => g r.2
  | fl => .ok (fl, r.2)
theorem eb_nil : EvB X S W [] bNil := ⟨_, pss_nil, fun C σ H ρ D E w => w σ H E (.refl _ _)⟩
theorem eb_cons (h1 : EvS X S W stm f) (h2 : EvB X S W rest g) : EvB X S W (stm :: rest) (bCons f g) := by
  obtain ⟨t, p, q⟩ := h1
  obtain ⟨u, p2, q2⟩ := h2
  refine ⟨_, pss_cons p p2, fun C σ H ρ D E w => ?_⟩
  refine q C σ H ρ _ E ((Wp.bind w).mono (fun _ _ h => h) fun r1 _ w1 σ1 H1 E1 A1 => ?_)
  obtain ⟨fl, ρ1⟩ := r1
  cases fl with
  | nx => exact q2 C σ1 H1 ρ1 D E1 ((show Wp (g ρ1) _ _ from w1).mono (fun _ _ h => h) fun r2 _ w2 σ2 H2 E2 A2 => w2 σ2 H2 E2 (A1.trans A2))
  | brk => exact w1 σ1 H1 E1 A1
  | cont => exact w1 σ1 H1 E1 A1
  | ret d => exact w1 σ1 H1 E1 A1
def valOf : DV → Option D
  | .val d => some d
  | .plc _ => none
theorem RV.val {C : EC} {σ : St} {H : Hp} {ρ : Env} {v : V} {x : DV} {d : D} (h : RV X.K S C σ H ρ v x) (e : valOf x = some d) : Rep X.K S.T (C.O S σ ρ) H v d := by
  cases x with
  | val d' => cases e; exact h
  | plc i => cases e
def sRet (f : SE) : SS := fun ρ => f ρ >>= fun r => ofOpt (valOf r.1) >>= fun d => .ok (.ret d, r.2)
theorem es_ret (h : EvE X S W e fe) : EvS X S W (.Return (some e) pos) (sRet fe) := by
  obtain ⟨t, p, q⟩ := h
  refine ⟨_, ps_ret p, fun C σ H ρ D E w => ?_⟩
  refine q C σ H ρ _ E ((Wp.bind w).mono (fun _ _ h => h) fun r1 _ w1 v H1 E1 A1 R1 => ?_)
  obtain ⟨d, ed, w2⟩ := opt_wp w1
  exact w2 σ H1 E1 A1 v (R1.val ed)
def sRetN : SS := fun ρ => .ok (.ret .non, ρ)
theorem es_retN : EvS X S W (.Return none pos) sRetN := ⟨_, ps_retN, fun C σ H ρ D E w => w σ H E (.refl _ _) .non .non⟩
def sExpr (f : SE) : SS := fun ρ => f ρ >>= fun r => .ok (.nx, r.2)
theorem es_expr (h : EvE X S W e fe) (hs : swapsWith e none pos.line X.env = pure false := by rfl) : EvS X S W (.Expr e pos) (sExpr fe) := by
  obtain ⟨t, p, q⟩ := h
  refine ⟨_, ps_expr p hs, fun C σ H ρ D E w => ?_⟩
  exact q C σ H ρ _ E ((Wp.bind w).mono (fun _ _ h => h) fun r1 _ w1 v H1 E1 A1 R1 => w1 σ H1 E1 A1)
theorem es_pass : EvS X S W (.Pass pos) bNil := ⟨_, ps_pass, fun C σ H ρ D E w => w σ H E (.refl _ _)⟩
def sBrk : SS := fun ρ => .ok (.brk, ρ)
def sCont : SS := fun ρ => .ok (.cont, ρ)
theorem es_brk : EvS X S W (.Break pos) sBrk := ⟨_, ps_break, fun C σ H ρ D E w => w σ H E (.refl _ _)⟩
theorem es_cont : EvS X S W (.Continue pos) sCont := ⟨_, ps_continue, fun C σ H ρ D E w => w σ H E (.refl _ _)⟩
def sIf (t : Env → Res (Bool × Env)) (f g : SS) : SS := fun ρ => t ρ >>= fun r => bif r.1 then f r.2 else g r.2
theorem es_if {c : Expr} {a b : List Stmt} {t} (hc : EvT X S W c t) (ha : EvB X S W a f) (hb : EvB X S W b g) : EvS X S W (.If c a b pos) (sIf t f g) := by
  obtain ⟨tc, pc, qc⟩ := hc
  obtain ⟨ta, pa, qa⟩ := ha
  obtain ⟨tb, pb, qb⟩ := hb
  refine ⟨_, ps_if pc pa pb, fun C σ H ρ D E w => ?_⟩
  refine qc C σ H ρ _ E ((Wp.bind w).mono (fun _ _ h => h) fun r1 _ w1 H1 E1 A1 => ?_)
  obtain ⟨k, ρ1⟩ := r1
  cases k with
  | true => exact qa C σ H1 ρ1 D E1 (w1.mono (fun _ _ h => h) fun r2 _ w2 σ2 H2 E2 A2 => w2 σ2 H2 E2 (A1.trans A2))
  | false => exact qb C σ H1 ρ1 D E1 (w1.mono (fun _ _ h => h) fun r2 _ w2 σ2 H2 E2 A2 => w2 σ2 H2 E2 (A1.trans A2))
/-- name = value, the name a shared slot -/
def sSet (i : Nat) (f : SE) : SS := fun ρ => f ρ >>= fun r => ofOpt (valOf r.1) >>= fun d => .ok (.nx, st r.2 i (some d))
theorem es_set {i : Nat} {x : Str} {pos' : Pos} (ho : i ∉ S.ow) (hfx : i ∉ S.fx) (hN : X.N.Nodup) (hi : X.N[i]? = some x) (hx : Loc X.env.scope x) (he : EvE X S W e fe) (hs : swapsWith e (some (.Name x pos')) pos.line X.env = pure false := by rfl)
    (hf : X.fn x = true ∨ X.env.scope.names.lookup x = some .local := by first | exact .inl rfl | exact .inr rfl | assumption) : EvS X S W (.Assign [.Name x pos'] e pos) (sSet i fe) := by
  obtain ⟨t, p, q⟩ := he
  refine ⟨_, ps_set hN hi hx p hs hf, fun C σ H ρ D E w => ?_⟩
  refine q C σ H ρ _ E ((Wp.bind w).mono (fun _ _ h => h) fun r1 _ w1 v H1 E1 A1 R1 => ?_)
  obtain ⟨d, ed, w2⟩ := opt_wp w1
  exact w2 _ H1 (E1.set_sh ho hfx (R1.val ed)) (adv_set_sh ho A1)
/-- name = a new object, the name an owned slot -/
def sSetF (i : Nat) (f : Env → Res (D × Env)) : SS := fun ρ => f ρ >>= fun r => .ok (.nx, st r.2 i (some r.1))
theorem es_setF {i : Nat} {x : Str} {pos' : Pos} {ff} (ho : i ∈ S.ow) (hfx : i ∉ S.fx) (hN : X.N.Nodup) (hi : X.N[i]? = some x) (hx : Loc X.env.scope x) (he : EvF X S W e ff) (hs : swapsWith e (some (.Name x pos')) pos.line X.env = pure false := by rfl)
    (hf : X.fn x = true ∨ X.env.scope.names.lookup x = some .local := by first | exact .inl rfl | exact .inr rfl | assumption) : EvS X S W (.Assign [.Name x pos'] e pos) (sSetF i ff) := by
  obtain ⟨t, p, q⟩ := he
  refine ⟨_, ps_set hN hi hx p hs hf, fun C σ H ρ D E w => ?_⟩
  refine q C σ H ρ _ E ((Wp.bind w).mono (fun _ _ h => h) fun r1 _ w1 p H1 h0 no E1 A1 how => ?_)
  have A2 : Adv (C.mo S σ ρ) H ((C.pl [p]).mo S σ r1.2) H1 := ⟨A1.st, A1.mn, fun a z => (O_plus.mp z).elim (A1.on a) fun e => .inr (e ▸ h0), A1.dm⟩
  have E2 := E1.set_ow (C := C) (ps := []) (d := r1.1) ho hfx (by simp) (E.h0 h0) no how
  have A3 := adv_set_ow (C := C) (ps := []) (i := i) (d := r1.1) A2 h0
  rw [EC.pl_nil] at E2 A3
  exact w1 _ H1 E2 A3

/-! ### targets -/
theorem wipe_set {σ : St} {i : Nat} {v : Option V} : ∀ {vs : List Nat}, i ∈ vs → wipe (σ.set i v) vs = wipe σ vs
  | [], h => absurd h (by simp)
  | j :: vs, h => by
    show (wipe (σ.set i v) vs).set j none = (wipe σ vs).set j none
    by_cases hv : i ∈ vs
    · rw [wipe_set hv]
    · have e : i = j := by
        rcases List.mem_cons.mp h with e | e
        · exact e
        · exact absurd e hv
      subst e
      have step : ∀ (ws : List Nat) (τ : St), i ∉ ws → wipe (τ.set i v) ws = (wipe τ ws).set i v := by
        intro ws
        induction ws with
        | nil => intro τ _; rfl
        | cons k ws ih =>
          intro τ hn
          have h1 : k ≠ i := fun e => hn (by rw [e]; exact List.mem_cons_self)
          have h2 : i ∉ ws := fun m => hn (List.mem_cons_of_mem _ m)
          show (wipe (τ.set i v) ws).set k none = ((wipe τ ws).set k none).set i v
          rw [ih τ h2, List.set_comm _ _ h1.symm]
      rw [step vs σ hv, List.set_set]
theorem eg_name {i : Nat} {x : Str} (ho : i ∉ S.ow) (hfx : i ∉ S.fx) (hN : X.N.Nodup) (hi : X.N[i]? = some x) (hx : Loc X.env.scope x) (hf : X.fn x = true ∨ X.env.scope.names.lookup x = some .local := by first | exact .inl rfl | exact .inr rfl | assumption) :
    EvG X S [i] (.Name x pos) (fun d ρ => .ok (st ρ i (some d))) :=
  ⟨_, pg_name hN hi hx hf, fun C σ H ρ v d Q E R w => w _ H (E.set_sh ho hfx R) (adv_set_sh ho (.refl _ _)) fun vs h => wipe_set (h i (List.mem_singleton.mpr rfl))⟩
def EvGs (X : Cx) (S : ES) (ts : List Nat) (tgs : List Expr) (g : List D → Env → Res Env) : Prop :=
  ∃ t : TGs, PGs X tgs t ∧ ∀ (C : EC) (σ : St) (H : Hp) (ρ : Env) (vs : List V) (ds : List D) (Q : St → Hp → Prop), ER X.K S C σ H ρ → Reps X.K S.T (C.O S σ ρ) H vs ds →
    Wp (g ds ρ) (fun _ _ => False) (fun ρ' => ∀ σ' H', ER X.K S C σ' H' ρ' → Adv (C.mo S σ ρ) H (C.mo S σ' ρ') H' → (∀ vs, (∀ i, i ∈ ts → i ∈ vs) → wipe σ' vs = wipe σ vs) → Q σ' H') → t vs σ H Q
def gsNil : List D → Env → Res Env := fun ds ρ => match ds with
  | [] => .ok ρ
  | _ => .stuck
def gsCons (g : D → Env → Res Env) (gs : List D → Env → Res Env) : List D → Env → Res Env := fun ds ρ => match ds with
  | [] => .stuck
  | d :: r => g d ρ >>= fun ρ1 => gs r ρ1
theorem egs_nil : EvGs X S [] [] gsNil := by
  refine ⟨_, pgs_nil, fun C σ H ρ vs ds Q E R w => ?_⟩
  cases ds with
  | nil => cases R; exact ⟨rfl, w σ H E (.refl _ _) fun _ _ => rfl⟩
  | cons d r => exact w.elim
theorem egs_cons {a : Expr} {as : List Expr} {t1 t2 : List Nat} {g : D → Env → Res Env} {gs : List D → Env → Res Env} (h1 : EvG X S t1 a g) (h2 : EvGs X S t2 as gs) (hs : (assignEach (a :: as) X.env).map (·.2) = assign a X.env :: (assignEach as X.env).map (·.2) := by rfl) : EvGs X S (t1 ++ t2) (a :: as) (gsCons g gs) := by
  obtain ⟨t, p, q⟩ := h1
  obtain ⟨u, p2, q2⟩ := h2
  refine ⟨_, pgs_cons p p2 hs, fun C σ H ρ vs ds Q E R w => ?_⟩
  cases ds with
  | nil => exact w.elim
  | cons d r =>
    cases R with
    | cons r1 r2 =>
      refine ⟨_, _, rfl, q C σ H ρ _ d _ E r1 ((Wp.bind (show Wp (g d ρ >>= fun ρ1 => gs r ρ1) _ _ from w)).mono (fun _ _ h => h) fun ρ1 _ w1 σ1 H1 E1 A1 z1 => ?_)⟩
      exact q2 C σ1 H1 ρ1 _ r Q E1 (r2.adv A1.ra) (w1.mono (fun _ _ h => h) fun ρ2 _ w2 σ2 H2 E2 A2 z2 => w2 σ2 H2 E2 (A1.trans A2) fun vs h => (z2 vs fun i m => h i (List.mem_append_right _ m)).trans (z1 vs fun i m => h i (List.mem_append_left _ m)))
def gTupD (n : Nat) (gs : List D → Env → Res Env) : D → Env → Res Env := fun d ρ => match d with
  | .tup ds => if ds.length = n then gs ds ρ else .stuck
  | _ => .stuck
theorem eg_tup {as : List Expr} {k n : Nat} {ts : List Nat} {gs : List D → Env → Res Env} (hc : X.calm = true) (h : EvGs X S ts as gs) (hn : (assignEach as X.env).length = n := by rfl) (hst : (assignEach as X.env).findIdx? (·.1) = none := by rfl) : EvG X S ts (.Tuple as k pos) (gTupD n gs) := by
  obtain ⟨t, p, q⟩ := h
  refine ⟨_, pg_tup hc p hn hst, fun C σ H ρ v d Q E R w => ?_⟩
  cases d with
  | tup ds =>
    have w' : Wp (if ds.length = n then gs ds ρ else .stuck) _ _ := w
    split at w'
    · rename_i hl
      cases R with
      | tup h1 h2 => exact ⟨_, _, rfl, h1.sq, h2.length.trans hl, q C σ H ρ _ ds Q E h2 w'⟩
    · exact w'.elim
  | _ => exact w.elim
/-- target = value -/
theorem Wp.noerr {α : Type} {r : Res α} {X : Nat → D → Prop} {Q : α → Prop} (h : Wp r X Q) (hn : ∀ c p, r ≠ .err c p) : Wp r (fun _ _ => False) Q := by
  cases r with
  | ok a => exact h
  | err c p => exact absurd rfl (hn c p)
  | stuck => exact h
def noErr {α : Type} : Res α → Res α
  | .err _ _ => .stuck
  | r => r
theorem noErr_wp {α β : Type} {r : Res α} {f : α → Res β} {X X' : Nat → D → Prop} {Q : β → Prop} (h : Wp (noErr r >>= f) X Q) : Wp r X' (fun a => Wp (f a) X Q) := by
  cases r with
  | ok a => exact h
  | err c p => exact h.elim
  | stuck => exact h.elim
def sAsgN (g : D → Env → Res Env) (f : SE) : SS := fun ρ => f ρ >>= fun r => ofOpt (valOf r.1) >>= fun d => noErr (g d r.2) >>= fun ρ' => .ok (.nx, ρ')
theorem es_asg {tg : Expr} {ts : List Nat} {g : D → Env → Res Env} (he : EvE X S W e fe) (hg : EvG X S ts tg g) (hs : swapsWithSole [tg] e pos.line X.env = pure false := by rfl) (hw : swappedStores [tg] e X.env = pure none := by rfl)
    (h1 : (assignEach [tg] X.env).map (·.2) = [assign tg X.env] := by rfl) : EvS X S W (.Assign [tg] e pos) (sAsgN g fe) := by
  obtain ⟨t, p, q⟩ := he
  obtain ⟨u, p2, q2⟩ := hg
  refine ⟨_, ps_asg p p2 hs hw h1, fun C σ H ρ D E w => ?_⟩
  refine q C σ H ρ _ E ((Wp.bind w).mono (fun _ _ h => h) fun r1 _ w1 v H1 E1 A1 R1 => ?_)
  obtain ⟨d, ed, w2⟩ := opt_wp w1
  exact q2 C σ H1 r1.2 v d _ E1 (R1.val ed) ((noErr_wp w2).mono (fun _ _ h => h) fun ρ' _ w3 σ2 H2 E2 A2 _ => w3 σ2 H2 E2 (A1.trans A2))
end
end EV

namespace EV
open PySem PySem.Spec L2 SX
open PyProof.Rows hiding St

section
variable {X : Cx} {S : ES} {W : WX} {pos : Pos} {e : Expr} {fe : SE} {tg : Expr} {g : D → Env → Res Env}

/-! ### for -/
def forL (g : D → Env → Res Env) (B : SS) : List D → SS
  | [], ρ => .ok (.nx, ρ)
  | d :: ds, ρ => noErr (g d ρ) >>= fun ρ1 => B ρ1 >>= fun r => match r.1 with
    | .nx => forL g B ds r.2
    | .cont => forL g B ds r.2
    | .brk => .ok (.nx, r.2)
    | .ret v => .ok (.ret v, r.2)
def sFor (fi : Env → Res (List D × Env)) (g : D → Env → Res Env) (B : SS) : SS := fun ρ => fi ρ >>= fun r => forL g B r.1 r.2
theorem drop_at {α : Type} {xs : List α} {i : Nat} (h : i < xs.length) : xs.drop i = xs[i] :: xs.drop (i + 1) := List.drop_eq_getElem_cons h
theorem es_for {iter : Expr} {ts : List Nat} {body : List Stmt} {fi : Env → Res (List D × Env)} {B : SS} (hp : PassesOwn (model X.prog X.w) X.A X.env X.xe) (hc : X.calm = true) (hi : EvI X S W tg iter fi) (hg : EvG X S ts tg g) (hb : EvB X S W body B)
    (hs : ∀ x, foldedSetIterable iter X.env x = pure x := by intro _; rfl) : EvS X S W (.For tg iter body [] pos) (sFor fi g B) := by
  obtain ⟨wi, pi, qi⟩ := hi
  obtain ⟨tt, pg, qg⟩ := hg
  obtain ⟨tb, pb, qb⟩ := hb
  refine ⟨_, ps_for hp hc pi pg pb hs, fun C σ H ρ D E w => ?_⟩
  refine qi C σ H ρ _ E ((Wp.bind w).mono (fun _ _ h => h) fun r1 _ w1 J H1 E1 A1 I1 => ?_)
  obtain ⟨xs, ρ1⟩ := r1
  refine ⟨fun i m σ' H' => m = xs.length - i ∧ i ≤ xs.length ∧ ∃ ρ', ER X.K S C σ' H' ρ' ∧ Adv (C.mo S σ ρ1) H1 (C.mo S σ' ρ') H' ∧
    Wp (forL g B (xs.drop i) ρ') (XOk X.K S W C) (fun r => ∀ σ2 H2, ER X.K S C σ2 H2 r.2 → Adv (C.mo S σ ρ) H (C.mo S σ2 r.2) H2 → EndOk X.K S C D r.1 r.2 σ2 H2), ⟨xs.length, rfl, Nat.zero_le _, ρ1, E1, .refl _ _, w1⟩, ?_⟩
  rintro i m σ' H' ⟨rfl, hi, ρ', E', A', w'⟩
  by_cases hlt : i < xs.length
  · refine .inr ⟨I1.go (C.mo S σ' ρ') H' i A'.ra hlt, fun σ2 H2 => ∃ ρ2, ER X.K S C σ2 H2 ρ2 ∧ Adv (C.mo S σ ρ1) H1 (C.mo S σ2 ρ2) H2 ∧
      Wp (forL g B (xs.drop (i + 1)) ρ2) (XOk X.K S W C) (fun r => ∀ σ2 H2, ER X.K S C σ2 H2 r.2 → Adv (C.mo S σ ρ) H (C.mo S σ2 r.2) H2 → EndOk X.K S C D r.1 r.2 σ2 H2), fun σ2 H2 ⟨ρ2, E2, A2, w2⟩ => ⟨xs.length - (i + 1), by omega, rfl, hlt, ρ2, E2, A2, w2⟩, fun x H2 y => ?_⟩
    rw [drop_at hlt] at w'
    obtain ⟨ex, rp⟩ := I1.yld C S σ' H' ρ' i x H2 xs[i] rfl E' A'.ra y (by simp [hlt])
    refine qg C σ' H2 ρ' x xs[i] _ (E'.ext ex) rp ((noErr_wp w').mono (fun _ _ h => h) fun ρ3 _ w3 σ3 H3 E3 A3 _ => ?_)
    have A3' := (A'.trans ex.adv).trans A3
    refine qb C σ3 H3 ρ3 _ E3 ((Wp.bind w3).mono (fun _ _ h => h) fun r4 _ w4 σ4 H4 E4 A4 => ?_)
    obtain ⟨fl, ρ4⟩ := r4
    cases fl with
    | nx => exact ⟨ρ4, E4, A3'.trans A4, w4⟩
    | cont => exact ⟨ρ4, E4, A3'.trans A4, w4⟩
    | brk => exact w4 σ4 H4 E4 ((A1.trans A3').trans A4)
    | ret d => exact w4 σ4 H4 E4 ((A1.trans A3').trans A4)
  · have ei : i = xs.length := by omega
    subst ei
    rw [List.drop_length] at w'
    exact .inl ⟨I1.stop (C.mo S σ' ρ') H' A'.ra, w' σ' H' E' (A1.trans A')⟩

/-! ### while -/
def whileL (t : Env → Res (Bool × Env)) (B : SS) : Nat → SS
  | 0, _ => .stuck
  | n + 1, ρ => t ρ >>= fun r => bif r.1 then (B r.2 >>= fun r2 => match r2.1 with
    | .nx => whileL t B n r2.2
    | .cont => whileL t B n r2.2
    | .brk => .ok (.nx, r2.2)
    | .ret v => .ok (.ret v, r2.2)) else .ok (.nx, r.2)
theorem es_while {c : Expr} {body : List Stmt} {t : Env → Res (Bool × Env)} {B : SS} (n : Nat) (hp : PassesOwn (model X.prog X.w) X.A X.env X.xe) (hc : EvT X S W c t) (hb : EvB X S W body B) : EvS X S W (.While c body [] pos) (whileL t B n) := by
  obtain ⟨tc, pc, qc⟩ := hc
  obtain ⟨tb, pb, qb⟩ := hb
  refine ⟨_, ps_while hp pc pb, fun C σ H ρ D E w => ?_⟩
  refine ⟨fun m σ' H' => ∃ ρ', ER X.K S C σ' H' ρ' ∧ Adv (C.mo S σ ρ) H (C.mo S σ' ρ') H' ∧ Wp (whileL t B m ρ') (XOk X.K S W C) (fun r => ∀ σ2 H2, ER X.K S C σ2 H2 r.2 → Adv (C.mo S σ ρ) H (C.mo S σ2 r.2) H2 → EndOk X.K S C D r.1 r.2 σ2 H2), ⟨n, ρ, E, .refl _ _, w⟩, ?_⟩
  rintro m σ' H' ⟨ρ', E', A', w'⟩
  cases m with
  | zero => exact w'.elim
  | succ m =>
    refine qc C σ' H' ρ' _ E' ((Wp.bind w').mono (fun _ _ h => h) fun r1 _ w1 H1 E1 A1 => ?_)
    obtain ⟨k, ρ1⟩ := r1
    cases k with
    | false => exact w1 σ' H1 E1 (A'.trans A1)
    | true =>
      refine ⟨fun σ2 H2 => ∃ ρ2, ER X.K S C σ2 H2 ρ2 ∧ Adv (C.mo S σ ρ) H (C.mo S σ2 ρ2) H2 ∧ Wp (whileL t B m ρ2) (XOk X.K S W C) (fun r => ∀ σ2 H2, ER X.K S C σ2 H2 r.2 → Adv (C.mo S σ ρ) H (C.mo S σ2 r.2) H2 → EndOk X.K S C D r.1 r.2 σ2 H2),
        fun σ2 H2 h => ⟨m, Nat.lt_succ_self m, h⟩, ?_⟩
      refine qb C σ' H1 ρ1 _ E1 ((Wp.bind (show Wp (B ρ1 >>= _) _ _ from w1)).mono (fun _ _ h => h) fun r4 _ w4 σ4 H4 E4 A4 => ?_)
      obtain ⟨fl, ρ4⟩ := r4
      cases fl with
      | nx => exact ⟨ρ4, E4, (A'.trans A1).trans A4, w4⟩
      | cont => exact ⟨ρ4, E4, (A'.trans A1).trans A4, w4⟩
      | brk => exact w4 σ4 H4 E4 ((A'.trans A1).trans A4)
      | ret d => exact w4 σ4 H4 E4 ((A'.trans A1).trans A4)

/-! ### what is walked -/
theorem Reps.get {K : PySem.W.Frag} {T : Nat → Option Addr} {O : Addr → Prop} {H : Hp} : ∀ {vs : List V} {ds : List D} {i : Nat} {d : D}, Reps K T O H vs ds → ds[i]? = some d → ∃ v, vs[i]? = some v ∧ Rep K T O H v d
  | _, _, _, _, .nil, e => by simp at e
  | _, _, 0, _, .cons h _, e => by
    simp at e
    subst e
    exact ⟨_, rfl, h⟩
  | _, _, i + 1, d, .cons _ h, e => by
    obtain ⟨v, h1, h2⟩ := Reps.get (i := i) (d := d) h (by simpa using e)
    exact ⟨v, by simpa using h1, h2⟩
theorem Reps.get' {K : PySem.W.Frag} {T : Nat → Option Addr} {O : Addr → Prop} {H : Hp} {vs : List V} {ds : List D} {i : Nat} {v : V} {d : D} (h : Reps K T O H vs ds) (e : vs[i]? = some v) (e2 : ds[i]? = some d) : Rep K T O H v d := by
  obtain ⟨w, h1, h2⟩ := h.get e2
  rw [e] at h1; cases h1
  exact h2
/-- a walk's frame: what is walked does not change -/
theorem rd_adv {O O' : Addr → Prop} {H H' : Hp} {a : Addr} {u : HO} (x : RA O H O' H') (n : ¬ O a) (h : Rd H a u) : ¬ O' a ∧ Rd H' a u := ⟨fun z => (x.on a z).elim n (rd_some h), x.st a _ n h⟩
theorem itd_list {m : MO} {H : Hp} {a : Addr} {vs : List V} {ds : List D} (n : ¬ m.O a) (h : Rd H a (.lst vs)) (hr : Reps X.K S.T m.O H vs ds) : ItD X.K S (Itl X.K a) ds m H where
  go := fun m1 H1 i ra hi => ⟨vs, vs[i]'(by rw [hr.length]; exact hi), (.inl (rd_adv ra n h).2), by simp⟩
  stop := fun m1 H1 ra => ⟨vs, (.inl (rd_adv ra n h).2), Nat.le_of_eq hr.length⟩
  yld := fun C S' σ H1 ρ i x H2 d hT E ra y e => by
    obtain ⟨rfl, y2⟩ := y
    rw [hT]
    exact ⟨Ex.refl _, (hr.adv ra).get' (y2 vs (.inl (rd_adv ra n h).2)) e⟩
theorem itd_tup {m : MO} {H : Hp} {a : Addr} {vs : List V} {ds : List D} (h : ShT X.K m.O H a vs) (hr : Reps X.K S.T m.O H vs ds) : ItD X.K S (Itt X.K a) ds m H where
  go := fun m1 H1 i ra hi => ⟨vs, vs[i]'(by rw [hr.length]; exact hi), (h.adv ra).sq, by simp⟩
  stop := fun m1 H1 ra => ⟨vs, (h.adv ra).sq, Nat.le_of_eq hr.length⟩
  yld := fun C S' σ H1 ρ i x H2 d hT E ra y e => by
    obtain ⟨rfl, y2⟩ := y
    rw [hT]
    exact ⟨Ex.refl _, (hr.adv ra).get' (y2 vs (h.adv ra).sq) e⟩
def signs (s : List Nat) : List D := s.map fun c => .str [c]
theorem itd_str {m : MO} {H : Hp} {s : List Nat} (hs : okS s) : ItD X.K S (Its (SX.S s)) (signs s) m H where
  go := fun m1 H1 i ra hi => by
    show i < (SX.S s).cps.size
    simpa [signs] using hi
  stop := fun m1 H1 ra => by
    show (SX.S s).cps.size ≤ (signs s).length
    simp [signs]
  yld := fun C S' σ H1 ρ i x H2 d hT E ra y e => by
    obtain ⟨rfl, c, hc, rfl⟩ := y
    refine ⟨Ex.refl _, ?_⟩
    have hc' : s[i]? = some c := by simpa using hc
    unfold signs at e
    rw [List.getElem?_map, hc'] at e
    cases e
    exact .str [c] fun b hb => by
      obtain rfl : b = c := by simpa using hb
      exact hs b (List.mem_of_getElem? hc')
theorem pi_or {w w' : TI} (h : PI X tg e w) (h' : PI X tg e w') : PI X tg e (fun σ H R => w σ H R ∨ w' σ H R) :=
  ⟨fun pins s σ H R I q => q.elim (h.run pins s σ H R I) (h'.run pins s σ H R I)⟩
/-- a list, a tuple, a text that nobody changes -/
def seqOf : DV → Option (List D)
  | .val (.lst ds) => some ds
  | .val (.tup ds) => some ds
  | .val (.str s) => some (signs s)
  | _ => none
def iSeq (f : SE) : Env → Res (List D × Env) := fun ρ => f ρ >>= fun r => ofOpt (seqOf r.1) >>= fun ds => .ok (ds, r.2)
theorem ei_seq (h : EvE X S W e fe) : EvI X S W tg e (iSeq fe) := by
  obtain ⟨t, p, q⟩ := h
  -- the three readings of one evaluation
  refine ⟨fun σ H R => ∃ C ρ, ER X.K S C σ H ρ ∧ Wp (iSeq fe ρ) (XOk X.K S W C) (fun r => ∀ J H', ER X.K S C σ H' r.2 → Adv (C.mo S σ ρ) H (C.mo S σ r.2) H' → ItD X.K S J r.1 (C.mo S σ r.2) H' → R J H'), ⟨fun pins s σ H R I hq => ?_⟩, fun C σ H ρ R E w => ⟨C, ρ, E, w⟩⟩
  obtain ⟨C, ρ, E, w⟩ := hq
  refine thn (p.run pins s σ H (fun x H1 => ∃ C ρ r1, ER X.K S C σ H1 r1.2 ∧ RV X.K S C σ H1 r1.2 x r1.1 ∧ Wp (ofOpt (seqOf r1.1) >>= fun ds => .ok (ds, r1.2)) (XOk X.K S W C) (fun r => ∀ J H', ER X.K S C σ H' r.2 → Adv (C.mo S σ ρ) H (C.mo S σ r.2) H' → ItD X.K S J r.1 (C.mo S σ r.2) H' → R J H') ∧ Adv (C.mo S σ ρ) H (C.mo S σ r1.2) H1) I
    (q C σ H ρ _ E ((Wp.bind w).mono (fun _ _ h => h) fun r1 _ w1 v H1 E1 A1 R1 => ⟨C, ρ, r1, E1, R1, w1, A1⟩))) fun v s1 ⟨x, H1, I1, rx, C, ρ, r1, E1, R1, w1, A1⟩ => ?_
  obtain ⟨ds, eds, w2⟩ := opt_wp w1
  obtain ⟨dv, ρ1⟩ := r1
  cases dv with
  | plc i => cases eds
  | val d =>
    cases d with
    | lst xs =>
      cases eds
      cases (show Rep X.K S.T (C.O S σ ρ1) H1 x (.lst ds) from R1) with
      | lst h0 h1 h2 =>
        cases rx
        obtain ⟨its, rv, pl, hz⟩ := I1.list (.inl h1)
        refine wpAny_pyIter_list pl.isList ?_
        refine ⟨s1.heap.objs.size, [s1.heap.objs.size], _, _, H1, rfl, I1.kept (t' := s1.toks) fun b o e => Heap.get?_push_of_some _ e, turn_list _ _, ⟨_, Heap.get?_push_size _ rfl, rfl, rfl⟩, fun b hb => ?_, w2 _ H1 E1 A1 (itd_list h0 h1 h2)⟩
        have eb : b = s1.heap.objs.size := by simpa using hb
        subst eb
        exact I1.fpOk (Nat.le_refl _) (I1.hok.fresh (Nat.le_refl _))
    | tup xs =>
      cases eds
      cases (show Rep X.K S.T (C.O S σ ρ1) H1 x (.tup ds) from R1) with
      | tup h1 h2 =>
        cases rx
        obtain ⟨its, rv, pl, hz⟩ := I1.tuple h1.sq
        refine wpAny_pyIter_tuple (show s1.heap.IsTuple _ its.toArray from pl) ?_
        refine ⟨s1.heap.objs.size, [s1.heap.objs.size], _, _, H1, rfl, I1.kept (t' := s1.toks) fun b o e => Heap.get?_push_of_some _ e, turn_tuple _ _, ⟨_, Heap.get?_push_size _ rfl, rfl, rfl⟩, fun b hb => ?_, w2 _ H1 E1 A1 (itd_tup h1 h2)⟩
        have eb : b = s1.heap.objs.size := by simpa using hb
        subst eb
        exact I1.fpOk (Nat.le_refl _) (I1.hok.fresh (Nat.le_refl _))
    | str z =>
      cases eds
      have hR : Rep X.K S.T (C.O S σ ρ1) H1 x (.str z) := R1
      have hz : okS z := RT.okS (.inl hR)
      have hx : x = .str (SX.S z) := by
        cases hR
        rfl
      subst hx
      obtain ⟨t', rfl⟩ := rx
      cases ha : (SX.S z).cps.all (· < 128)
      · exact wpAny_pyIter_wide ha (pi_one (tk := s1.toks) I1 _ (turn_str _ (SX.S z) t' "str_iterator" (.inr rfl)) ⟨_, Heap.get?_push_size _ rfl, rfl, rfl⟩ (w2 _ H1 E1 A1 (itd_str hz)))
      · exact wpAny_pyIter_ascii ha (pi_one (tk := s1.toks) I1 _ (turn_str _ (SX.S z) t' "str_ascii_iterator" (.inl rfl)) ⟨_, Heap.get?_push_size _ rfl, rfl, rfl⟩ (w2 _ H1 E1 A1 (itd_str hz)))
    | _ => cases eds

/-! ### range -/
def rng (lo c : Int) (n : Nat) : List D := (List.range n).map fun (i : Nat) => .int (lo + (i : Int) * c)
theorem rng_length {lo c : Int} {n : Nat} : (rng lo c n).length = n := by simp [rng]
theorem itd_rng {m : MO} {H : Hp} {lo : Int} {n : Nat} : ItD X.K S (Itr lo n) (rng lo 1 n) m H where
  go := fun m1 H1 i ra hi => by rw [rng_length] at hi; exact hi
  stop := fun m1 H1 ra => by rw [rng_length]; exact Nat.le_refl _
  yld := fun C S' σ H1 ρ i x H2 d hT E ra y e => by
    obtain ⟨rfl, rfl⟩ := y
    refine ⟨Ex.refl _, ?_⟩
    have hi : i < n := by
      have := (List.getElem?_eq_some_iff.mp e).1
      rwa [rng_length] at this
    have ed : d = .int (lo + (i : Int) * 1) := by
      simp [rng, hi] at e
      simpa using e.symm
    subst ed
    rw [Int.mul_one]
    exact .int _
theorem itd_rngC {m : MO} {H : Hp} {lo c : Int} {n : Nat} : ItD X.K S (Itc lo c n) (rng lo c n) m H where
  go := fun m1 H1 i ra hi => by rw [rng_length] at hi; exact hi
  stop := fun m1 H1 ra => by rw [rng_length]; exact Nat.le_refl _
  yld := fun C S' σ H1 ρ i x H2 d hT E ra y e => by
    obtain ⟨rfl, rfl⟩ := y
    refine ⟨Ex.refl _, ?_⟩
    have hi : i < n := by
      have := (List.getElem?_eq_some_iff.mp e).1
      rwa [rng_length] at this
    have ed : d = .int (lo + (i : Int) * c) := by
      simp [rng, hi] at e
      simpa using e.symm
    subst ed
    exact .int _
def rin (j : Int) : Bool := decide (-1000000000 ≤ j) && decide (j < 1000000000)
theorem rin_of {j : Int} (h : rin j = true) : -(2 ^ 62) ≤ j ∧ j < 2 ^ 62 := by
  unfold rin at h
  rw [Bool.and_eq_true, decide_eq_true_eq, decide_eq_true_eq] at h
  omega
def rng1 : List D → Option (List D)
  | [.int j] => bif rin j then some (rng 0 1 j.toNat) else none
  | _ => none
def rng2 : List D → Option (List D)
  | [.int i, .int j] => bif rin i && rin j then some (rng i 1 (j - i).toNat) else none
  | _ => none
/-- by a step; the number of turns is told for steps of -1 and for others by the model's own reckoning -/
def rng3 : List D → Option (List D)
  | [.int i, .int j, .int c] => if c ≠ 0 ∧ c.natAbs < 1073741824 ∧ Builtin.Range.small i j c = true ∧ 0 ≤ Builtin.Range.rangeSize i j c then some (rng i c (Builtin.Range.rangeSize i j c).toNat) else none
  | _ => none
def iRng (k : List D → Option (List D)) (fs : Env → Res (List DV × Env)) : Env → Res (List D × Env) := fun ρ => fs ρ >>= fun r => ofOpt (vals r.1) >>= fun ds => ofOpt (k ds) >>= fun xs => .ok (xs, r.2)
theorem Reps.ints1 {K : PySem.W.Frag} {T : Nat → Option Addr} {O : Addr → Prop} {H : Hp} {vs : List V} {i : Int} (h : Reps K T O H vs [.int i]) : vs = [.int i] := by
  cases h with
  | cons h1 h2 => cases h1; cases h2; rfl
theorem Reps.ints2 {K : PySem.W.Frag} {T : Nat → Option Addr} {O : Addr → Prop} {H : Hp} {vs : List V} {i j : Int} (h : Reps K T O H vs [.int i, .int j]) : vs = [.int i, .int j] := by
  cases h with
  | cons h1 h2 => cases h1; rw [h2.ints1]
theorem Reps.ints3 {K : PySem.W.Frag} {T : Nat → Option Addr} {O : Addr → Prop} {H : Hp} {vs : List V} {i j c : Int} (h : Reps K T O H vs [.int i, .int j, .int c]) : vs = [.int i, .int j, .int c] := by
  cases h with
  | cons h1 h2 => cases h1; rw [h2.ints2]
theorem rng1_of {ds xs : List D} (h : rng1 ds = some xs) : ∃ j, ds = [.int j] ∧ -(2 ^ 62) ≤ j ∧ j < 2 ^ 62 ∧ xs = rng 0 1 j.toNat := by
  unfold rng1 at h
  split at h
  · rename_i j
    cases hb : rin j with
    | true =>
      rw [hb] at h
      cases h
      exact ⟨_, rfl, (rin_of hb).1, (rin_of hb).2, rfl⟩
    | false => rw [hb] at h; cases h
  · cases h
theorem rng2_of {ds xs : List D} (h : rng2 ds = some xs) : ∃ i j, ds = [.int i, .int j] ∧ (-(2 ^ 62) ≤ i ∧ i < 2 ^ 62 ∧ -(2 ^ 62) ≤ j ∧ j < 2 ^ 62) ∧ xs = rng i 1 (j - i).toNat := by
  unfold rng2 at h
  split at h
  · rename_i i j
    cases hb : (rin i && rin j) with
    | true =>
      rw [hb] at h
      cases h
      rw [Bool.and_eq_true] at hb
      exact ⟨_, _, rfl, ⟨(rin_of hb.1).1, (rin_of hb.1).2, (rin_of hb.2).1, (rin_of hb.2).2⟩, rfl⟩
    | false => rw [hb] at h; cases h
  · cases h
theorem rng3_of {ds xs : List D} (h : rng3 ds = some xs) : ∃ i j c, ds = [.int i, .int j, .int c] ∧ (c ≠ 0 ∧ c.natAbs < 1073741824 ∧ Builtin.Range.small i j c = true ∧ 0 ≤ Builtin.Range.rangeSize i j c) ∧ xs = rng i c (Builtin.Range.rangeSize i j c).toNat := by
  unfold rng3 at h
  split at h
  · split at h
    · rename_i hb
      cases h
      exact ⟨_, _, _, rfl, hb, rfl⟩
    · cases h
  · cases h
theorem ei_range1 {a : Expr} {p : Pos} {fs} (hg : Gl X "range") (hm : X.mg "range" = none) (ha : EvA X S W [a] fs) (hs : starEach [a] X.env = [(false, eval a X.env)] := by rfl) : EvI X S W tg (.Call (.Name "range" p) [a] [] pos) (iRng rng1 fs) := by
  obtain ⟨t, pa, q⟩ := ha
  refine ⟨_, pi_range1 hg hm pa hs, fun C σ H ρ R E w => ?_⟩
  refine q C σ H ρ _ E ((Wp.bind w).mono (fun _ _ h => h) fun r1 _ w1 vs H1 E1 A1 R1 => ?_)
  obtain ⟨ds, eds, w2⟩ := opt_wp w1
  obtain ⟨xs, exs, w3⟩ := opt_wp w2
  have rs := R1.reps eds
  obtain ⟨j, rfl, h1, h2, rfl⟩ := rng1_of exs
  exact ⟨j, rs.ints1, h1, h2, w3 _ H1 E1 A1 itd_rng⟩
theorem ei_range2 {a b : Expr} {p : Pos} {fs} (hg : Gl X "range") (hm : X.mg "range" = none) (ha : EvA X S W [a, b] fs) (hs : starEach [a, b] X.env = [(false, eval a X.env), (false, eval b X.env)] := by rfl) (hs2 : starEach [b] X.env = [(false, eval b X.env)] := by rfl) : EvI X S W tg (.Call (.Name "range" p) [a, b] [] pos) (iRng rng2 fs) := by
  obtain ⟨t, pa, q⟩ := ha
  refine ⟨_, pi_range2 hg hm pa hs hs2, fun C σ H ρ R E w => ?_⟩
  refine q C σ H ρ _ E ((Wp.bind w).mono (fun _ _ h => h) fun r1 _ w1 vs H1 E1 A1 R1 => ?_)
  obtain ⟨ds, eds, w2⟩ := opt_wp w1
  obtain ⟨xs, exs, w3⟩ := opt_wp w2
  have rs := R1.reps eds
  obtain ⟨i, j, rfl, hb, rfl⟩ := rng2_of exs
  exact ⟨i, j, rs.ints2, hb, w3 _ H1 E1 A1 itd_rng⟩
theorem ei_range3 {a b c : Expr} {p : Pos} {fs} (hg : Gl X "range") (hm : X.mg "range" = none) (ha : EvA X S W [a, b, c] fs) (hs : starEach [a, b, c] X.env = [(false, eval a X.env), (false, eval b X.env), (false, eval c X.env)] := by rfl)
    (hs2 : starEach [b, c] X.env = [(false, eval b X.env), (false, eval c X.env)] := by rfl) (hs3 : starEach [c] X.env = [(false, eval c X.env)] := by rfl) : EvI X S W tg (.Call (.Name "range" p) [a, b, c] [] pos) (iRng rng3 fs) := by
  obtain ⟨t, pa, q⟩ := ha
  refine ⟨_, pi_range3 hg hm pa (by first | exact hs | (rw [hs, hs2])) (by first | rfl | (rw [hs2]; rfl)), fun C σ H ρ R E w => ?_⟩
  refine q C σ H ρ _ E ((Wp.bind w).mono (fun _ _ h => h) fun r1 _ w1 vs H1 E1 A1 R1 => ?_)
  obtain ⟨ds, eds, w2⟩ := opt_wp w1
  obtain ⟨xs, exs, w3⟩ := opt_wp w2
  have rs := R1.reps eds
  obtain ⟨i, j, k, rfl, hb, rfl⟩ := rng3_of exs
  refine ⟨i, j, k, _, rs.ints3, ⟨hb.1, hb.2.1, hb.2.2.1, ?_⟩, w3 _ H1 E1 A1 itd_rngC⟩
  exact (Int.toNat_of_nonneg hb.2.2.2).symm
end
end EV

namespace EV
open PySem PySem.Spec L2 SX
open PyProof.Rows hiding St

/-! ### readings that hang on the plain function alone -/
section
variable (K : PySem.W.Frag) (S : ES) (W : WX)
def canE (f : SE) : TE := fun σ H Q => ∃ C ρ, ER K S C σ H ρ ∧ Wp (f ρ) (XOk K S W C) (fun r => ∀ v H', ER K S C σ H' r.2 → Adv (C.mo S σ ρ) H (C.mo S σ r.2) H' → RV K S C σ H' r.2 v r.1 → Q v H')
def canT (f : Env → Res (Bool × Env)) : TT := fun σ H Q => ∃ C ρ, ER K S C σ H ρ ∧ Wp (f ρ) (XOk K S W C) (fun r => ∀ H', ER K S C σ H' r.2 → Adv (C.mo S σ ρ) H (C.mo S σ r.2) H' → Q r.1 H')
def canG (ts : List Nat) (g : D → Env → Res Env) : TG := fun v σ H Q => ∃ C ρ d, ER K S C σ H ρ ∧ Rep K S.T (C.O S σ ρ) H v d ∧
  Wp (g d ρ) (fun _ _ => False) (fun ρ' => ∀ σ' H', ER K S C σ' H' ρ' → Adv (C.mo S σ ρ) H (C.mo S σ' ρ') H' → (∀ vs, (∀ i, i ∈ ts → i ∈ vs) → wipe σ' vs = wipe σ vs) → Q σ' H')
def canI (f : Env → Res (List D × Env)) : TI := fun σ H R => ∃ C ρ, ER K S C σ H ρ ∧ Wp (f ρ) (XOk K S W C) (fun r => ∀ J H', ER K S C σ H' r.2 → Adv (C.mo S σ ρ) H (C.mo S σ r.2) H' → ItD K S J r.1 (C.mo S σ r.2) H' → R J H')
end
section
variable {X : Cx} {S : ES} {W : WX} {e : Expr}
theorem EvE.can {f : SE} (h : EvE X S W e f) : PE X e (canE X.K S W f) := by
  obtain ⟨t, p, q⟩ := h
  exact ⟨fun pins s σ H Q I ⟨C, ρ, E, w⟩ => p.run pins s σ H Q I (q C σ H ρ Q E w)⟩
theorem EvT.can {f : Env → Res (Bool × Env)} (h : EvT X S W e f) : PT X e (canT X.K S W f) := by
  obtain ⟨t, p, q⟩ := h
  exact ⟨fun pins s σ H Q I ⟨C, ρ, E, w⟩ => p.run pins s σ H Q I (q C σ H ρ Q E w)⟩
theorem EvG.can {ts : List Nat} {g : D → Env → Res Env} (h : EvG X S ts e g) : PG X e (canG X.K S ts g) := by
  obtain ⟨t, p, q⟩ := h
  exact ⟨fun pins s σ H v u Q I r ⟨C, ρ, d, E, rp, w⟩ => p.run pins s σ H v u Q I r (q C σ H ρ v d Q E rp w)⟩
theorem EvI.can {tg : Expr} {f : Env → Res (List D × Env)} (h : EvI X S W tg e f) : PI X tg e (canI X.K S W f) := by
  obtain ⟨t, p, q⟩ := h
  exact ⟨fun pins s σ H R I ⟨C, ρ, E, w⟩ => p.run pins s σ H R I (q C σ H ρ R E w)⟩
end

/-! ### a block's own names forgotten, and back -/
def wipeE (ρ : Env) : List Nat → Env
  | [] => ρ
  | i :: vs => st (wipeE ρ vs) i none
def restE (ρ1 ρ2 : Env) : List Nat → Env
  | [] => ρ2
  | i :: vs => st (restE ρ1 ρ2 vs) i (gt ρ1 i)
theorem wipeE_length (ρ : Env) : ∀ vs, (wipeE ρ vs).length = ρ.length
  | [] => rfl
  | i :: vs => by
    show (st (wipeE ρ vs) i none).length = _
    rw [st_length, wipeE_length ρ vs]
theorem restE_length (ρ1 ρ2 : Env) : ∀ vs, (restE ρ1 ρ2 vs).length = ρ2.length
  | [] => rfl
  | i :: vs => by
    show (st (restE ρ1 ρ2 vs) i _).length = _
    rw [st_length, restE_length ρ1 ρ2 vs]
theorem gt_wipeE (ρ : Env) (j : Nat) : ∀ vs, gt (wipeE ρ vs) j = if j ∈ vs then none else gt ρ j
  | [] => by simp [wipeE]
  | i :: vs => by
    show gt (st (wipeE ρ vs) i none) j = _
    by_cases e : j = i
    · subst e
      rw [gt_st_none]
      simp
    · rw [gt_st_ne _ _ _ _ e, gt_wipeE ρ j vs]
      simp [e]
theorem gt_none_of_len {ρ : Env} {i : Nat} (h : ρ.length ≤ i) : gt ρ i = none := by
  cases q : gt ρ i with
  | none => rfl
  | some d => exact absurd (gt_lt q) (Nat.not_lt.mpr h)
theorem gt_restE {ρ1 ρ2 : Env} (hl : ρ2.length = ρ1.length) (j : Nat) : ∀ vs, gt (restE ρ1 ρ2 vs) j = if j ∈ vs then gt ρ1 j else gt ρ2 j
  | [] => by simp [restE]
  | i :: vs => by
    show gt (st (restE ρ1 ρ2 vs) i (gt ρ1 i)) j = _
    by_cases e : j = i
    · subst e
      rw [if_pos (by simp)]
      by_cases hj : j < (restE ρ1 ρ2 vs).length
      · rw [gt_st_same _ _ _ hj]
      · rw [gt_none_of_len (by rw [st_length]; exact Nat.not_lt.mp hj)]
        rw [restE_length, hl] at hj
        exact (gt_none_of_len (Nat.not_lt.mp hj)).symm
    · rw [gt_st_ne _ _ _ _ e, gt_restE hl j vs]
      simp [e]
section
variable {K : PySem.W.Frag} {S : ES} {C : EC} {σ : St} {H H' : Hp} {ρ ρ' : Env} {vs : List Nat}
theorem M_wipe (ho : ∀ v, v ∈ vs → v ∉ S.ow) {a : Addr} : EC.M S (wipe σ vs) (wipeE ρ vs) a ↔ EC.M S σ ρ a := by
  constructor
  · rintro ⟨i, h1, h2, h3⟩
    have ni : i ∉ vs := fun m => ho i m h1
    rw [gt_wipeE, if_neg ni] at h2
    rw [wipe_out ni] at h3
    exact ⟨i, h1, h2, h3⟩
  · rintro ⟨i, h1, h2, h3⟩
    have ni : i ∉ vs := fun m => ho i m h1
    exact ⟨i, h1, by rw [gt_wipeE, if_neg ni]; exact h2, by rw [wipe_out ni]; exact h3⟩
theorem mo_wipe (ho : ∀ v, v ∈ vs → v ∉ S.ow) : C.mo S (wipe σ vs) (wipeE ρ vs) = C.mo S σ ρ := by
  have e1 : EC.M S (wipe σ vs) (wipeE ρ vs) = EC.M S σ ρ := funext fun a => propext (M_wipe ho)
  have e2 : C.O S (wipe σ vs) (wipeE ρ vs) = C.O S σ ρ := funext fun a => by unfold EC.O; rw [e1]
  show MO.mk _ _ _ = MO.mk _ _ _
  congr 1
theorem O_wipe (ho : ∀ v, v ∈ vs → v ∉ S.ow) : C.O S (wipe σ vs) (wipeE ρ vs) = C.O S σ ρ := congrArg MO.O (mo_wipe ho)
theorem ER.wiped (E : ER K S C σ H ρ) (ho : ∀ v, v ∈ vs → v ∉ S.ow) (hf : ∀ v, v ∈ vs → v ∉ S.fx) : ER K S C (wipe σ vs) H (wipeE ρ vs) where
  len := by rw [wipeE_length, wipe_length]; exact E.len
  sh := fun i d hi hd => by
    rw [gt_wipeE] at hd
    split at hd
    · cases hd
    · rename_i ni
      obtain ⟨v, h1, h2⟩ := E.sh i d hi hd
      rw [O_wipe ho]
      exact ⟨v, by rw [wipe_out ni]; exact h1, h2⟩
  own := fun i d hi hd => by
    have ni : i ∉ vs := fun m => ho i m hi
    rw [gt_wipeE, if_neg ni] at hd
    obtain ⟨a, h1, h2⟩ := E.own i d hi hd
    rw [O_wipe ho]
    exact ⟨a, by rw [wipe_out ni]; exact h1, h2⟩
  dis := fun i j a hi hj h1 h2 h3 h4 => by
    have ni : i ∉ vs := fun m => ho i m hi
    have nj : j ∉ vs := fun m => ho j m hj
    rw [gt_wipeE, if_neg ni] at h1
    rw [gt_wipeE, if_neg nj] at h2
    rw [wipe_out ni] at h3
    rw [wipe_out nj] at h4
    exact E.dis i j a hi hj h1 h2 h3 h4
  fx := fun i hi => by
    have ni : i ∉ vs := fun m => hf i m hi
    rw [wipe_out ni]
    exact E.fx i hi
  fr := E.fr
  dom := E.dom
  lks := E.lks
  o0 := E.o0
theorem M_rest {ρ1 : Env} (hl : ρ'.length = ρ1.length) (ho : ∀ v, v ∈ vs → v ∉ S.ow) {a : Addr} : EC.M S σ (restE ρ1 ρ' vs) a ↔ EC.M S (wipe σ vs) (wipeE ρ' vs) a := by
  rw [M_wipe ho]
  constructor
  · rintro ⟨i, h1, h2, h3⟩
    have ni : i ∉ vs := fun m => ho i m h1
    rw [gt_restE hl, if_neg ni] at h2
    exact ⟨i, h1, h2, h3⟩
  · rintro ⟨i, h1, h2, h3⟩
    have ni : i ∉ vs := fun m => ho i m h1
    exact ⟨i, h1, by rw [gt_restE hl, if_neg ni]; exact h2, h3⟩
theorem mo_rest {ρ1 : Env} (hl : ρ'.length = ρ1.length) (ho : ∀ v, v ∈ vs → v ∉ S.ow) : C.mo S σ (restE ρ1 ρ' vs) = C.mo S (wipe σ vs) (wipeE ρ' vs) := by
  have e1 : EC.M S σ (restE ρ1 ρ' vs) = EC.M S (wipe σ vs) (wipeE ρ' vs) := funext fun a => propext (M_rest hl ho)
  have e2 : C.O S σ (restE ρ1 ρ' vs) = C.O S (wipe σ vs) (wipeE ρ' vs) := funext fun a => by unfold EC.O; rw [e1]
  show MO.mk _ _ _ = MO.mk _ _ _
  congr 1
/-- behind a block: its own names hold again what they held -/
theorem ER.rest {C1 : EC} {ρ1 : Env} {H1 : Hp} (E : ER K S C (wipe σ vs) H (wipeE ρ' vs)) (E1 : ER K S C1 σ H1 ρ1) (ra : RA (C1.O S σ ρ1) H1 (C.O S (wipe σ vs) (wipeE ρ' vs)) H) (ho : ∀ v, v ∈ vs → v ∉ S.ow) (hfx : ∀ i, i ∈ S.fx → σ[i]? = some (some (C.fv i))) : ER K S C σ H (restE ρ1 ρ' vs) := by
  have hl : ρ'.length = ρ1.length := by
    have h1 := E.len
    rw [wipeE_length, wipe_length] at h1
    exact h1.trans E1.len.symm
  have eo : C.O S σ (restE ρ1 ρ' vs) = C.O S (wipe σ vs) (wipeE ρ' vs) := congrArg MO.O (mo_rest hl ho)
  refine ⟨by rw [restE_length, hl]; exact E1.len, fun i d hi hd => ?_, fun i d hi hd => ?_, fun i j a hi hj h1 h2 h3 h4 => ?_, hfx, E.fr, E.dom, E.lks, E.o0⟩
  · rw [gt_restE hl] at hd
    rw [eo]
    split at hd
    · obtain ⟨v, h1, h2⟩ := E1.sh i d hi hd
      exact ⟨v, h1, h2.adv ra⟩
    · rename_i ni
      obtain ⟨v, h1, h2⟩ := E.sh i d hi (by rw [gt_wipeE, if_neg ni]; exact hd)
      rw [wipe_out ni] at h1
      exact ⟨v, h1, h2⟩
  · have ni : i ∉ vs := fun m => ho i m hi
    rw [gt_restE hl, if_neg ni] at hd
    obtain ⟨a, h1, h2⟩ := E.own i d hi (by rw [gt_wipeE, if_neg ni]; exact hd)
    rw [wipe_out ni] at h1
    rw [eo]
    exact ⟨a, h1, h2⟩
  · have ni : i ∉ vs := fun m => ho i m hi
    have nj : j ∉ vs := fun m => ho j m hj
    rw [gt_restE hl, if_neg ni] at h1
    rw [gt_restE hl, if_neg nj] at h2
    exact E.dis i j a hi hj (by rw [gt_wipeE, if_neg ni]; exact h1) (by rw [gt_wipeE, if_neg nj]; exact h2) (by rw [wipe_out ni]; exact h3) (by rw [wipe_out nj]; exact h4)
end

/-! ### list comprehensions -/
abbrev WF : WX := fun _ _ _ _ => False
def lcL (vs : List Nat) (g : D → Env → Res Env) (cnd : Env → Res (Bool × Env)) (elt : SE) : List D → Env → Res (List D × Env)
  | [], ρ => .ok ([], ρ)
  | d :: ds, ρ => noErr (g d (wipeE ρ vs)) >>= fun ρ1 => noErr (cnd ρ1) >>= fun r => bif r.1 then noErr (elt r.2) >>= fun r2 => ofOpt (valOf r2.1) >>= fun x => lcL vs g cnd elt ds r2.2 >>= fun r3 => .ok (x :: r3.1, r3.2) else lcL vs g cnd elt ds r.2
def fLc (vs : List Nat) (fi : Env → Res (List D × Env)) (g : D → Env → Res Env) (cnd : Env → Res (Bool × Env)) (elt : SE) : Env → Res (D × Env) :=
  fun ρ => fi ρ >>= fun r => ofOpt (lim r.1.length) >>= fun _ => lcL vs g cnd elt r.1 r.2 >>= fun r2 => .ok (.lst r2.1, restE r.2 r2.2 vs)
theorem Reps.snoc {K : PySem.W.Frag} {T : Nat → Option Addr} {O : Addr → Prop} {H : Hp} {v : V} {d : D} : ∀ {vs : List V} {ds : List D}, Reps K T O H vs ds → Rep K T O H v d → Reps K T O H (vs ++ [v]) (ds ++ [d])
  | _, _, .nil, h => .cons h .nil
  | _, _, .cons a b, h => .cons a (Reps.snoc b h)
theorem Adv.mutNew {m m' : MO} {H H' : Hp} (A : Adv m H m' H') {p : Addr} {u : HO} (hp : H p = none) (hp' : H' p ≠ none) : Adv m H m' (upd H' p u) where
  st := fun a w n h => by rw [upd_ne (ne_of_none h hp)]; exact A.st a w n h
  mn := A.mn
  on := A.on
  dm := fun a h => by
    by_cases e : a = p
    · subst e; rw [upd_same]; exact some_ne rfl
    · rw [upd_ne e]; exact A.dm a h
/-- an object of ours that no name holds is changed -/
theorem ER.mutNew {K : PySem.W.Frag} {S : ES} {C : EC} {σ : St} {H : Hp} {ρ : Env} {p : Addr} {u w : HO} (E : ER K S (C.pl [p]) σ H ρ) (h0 : C.H0 p = none) (nm : ¬ EC.M S σ ρ p) (hp : H p = some w) (mw : Mut (some w)) (mu : Mut (some u)) : ER K S (C.pl [p]) σ (upd H p u) ρ := by
  have op : (C.pl [p]).O S σ ρ p := .inl (.inr (List.mem_singleton.mpr rfl))
  have ra : RA ((C.pl [p]).O S σ ρ) H ((C.pl [p]).O S σ ρ) (upd H p u) := by
    refine ⟨fun b v n h => ?_, fun b z => .inl z, fun b h => ?_⟩
    · have ne : b ≠ p := fun e => n (e ▸ op)
      rcases h with h | ⟨o, h⟩
      · exact .inl (by rw [upd_ne ne]; exact h)
      · exact .inr ⟨o, by rw [upd_ne ne]; exact h⟩
    · by_cases e : b = p
      · subst e; rw [upd_same]; exact some_ne rfl
      · rw [upd_ne e]; exact h
  refine ⟨E.len, fun i d hi hd => let ⟨v, h1, h2⟩ := E.sh i d hi hd; ⟨v, h1, h2.adv ra⟩, fun i d hi hd => ?_, E.dis, E.fx, fun b v h => ?_, fun b h => ra.dm b (E.dom b h), fun b o v h => ?_, fun b h => ?_⟩
  · obtain ⟨a, h1, h2, h3⟩ := E.own i d hi hd
    have ne : a ≠ p := fun e => nm ⟨i, hi, some_ne hd, e ▸ h1⟩
    exact ⟨a, h1, h2.adv ra (upd_ne ne), h3⟩
  · have ne : b ≠ p := fun e => by rw [e] at h; rw [show (C.pl [p]).H0 p = C.H0 p from rfl, h0] at h; cases h
    rw [upd_ne ne]; exact E.fr b v h
  · have hb := E.lks b o v h
    have ne : b ≠ p := fun e => by
      rw [e, hp] at hb
      cases hb.1
      exact mw
    exact ⟨by rw [upd_ne ne]; exact hb.1, hb.2⟩
  · by_cases e : b = p
    · subst e; exact ⟨u, .inl upd_same, mu⟩
    · obtain ⟨v, h1, h2⟩ := E.o0 b h
      refine ⟨v, ?_, h2⟩
      rcases h1 with h1 | ⟨o, h1⟩
      · exact .inl (by rw [upd_ne e]; exact h1)
      · exact .inr ⟨o, by rw [upd_ne e]; exact h1⟩

section
variable {X : Cx} {S : ES} {W : WX} {pos : Pos}
/-- the reading of a comprehension, from its parts' -/
theorem lc_can {fi : Env → Res (List D × Env)} {ts : List Nat} {g : D → Env → Res Env} {cnd : Env → Res (Bool × Env)} {elt : SE} {vs : List Nat} {wi : TI} {tt : TT} (ho : ∀ v, v ∈ vs → v ∉ S.ow) (hf : ∀ v, v ∈ vs → v ∉ S.fx) (hts : ∀ i, i ∈ ts → i ∈ vs)
    (qi : ∀ (C : EC) (σ : St) (H : Hp) (ρ : Env) (R : It → Hp → Prop), ER X.K S C σ H ρ → Wp (fi ρ) (XOk X.K S W C) (fun r => ∀ J H', ER X.K S C σ H' r.2 → Adv (C.mo S σ ρ) H (C.mo S σ r.2) H' → ItD X.K S J r.1 (C.mo S σ r.2) H' → R J H') → wi σ H R)
    (qt : ∀ (C : EC) (σ : St) (H : Hp) (ρ : Env) (Q : Bool → Hp → Prop), ER X.K S C σ H ρ → Wp (cnd ρ) (XOk X.K S WF C) (fun r => ∀ H', ER X.K S C σ H' r.2 → Adv (C.mo S σ ρ) H (C.mo S σ r.2) H' → Q r.1 H') → tt σ H Q)
    (C : EC) (σ : St) (H : Hp) (ρ : Env) (Q : VK) (E : ER X.K S C σ H ρ)
    (w : Wp (fLc vs fi g cnd elt ρ) (XOk X.K S W C) (fun r => ∀ p H', H p = none → ¬ C.O S σ r.2 p → ER X.K S (C.pl [p]) σ H' r.2 → Adv (C.mo S σ ρ) H (C.mo S σ r.2) H' → OwnAt X.K S.T ((C.pl [p]).O S σ r.2) H' p r.1 → Q (.ref p) H')) :
    tLc wi (canG X.K S ts g) tt (canE X.K S WF elt) vs σ H Q := by
  refine qi C σ H ρ _ E ((Wp.bind w).mono (fun _ _ h => h) fun r1 _ w1 J H1 E1 A1 I1 => ?_)
  obtain ⟨xs, ρ1⟩ := r1
  obtain ⟨u, eu, w2⟩ := opt_wp w1
  have hz : xs.length ≤ sizeLine := lim_ok eu
  intro L hL
  -- what is true ahead of each turn
  let Pv : Nat → Env → List V → List D → Hp → Prop := fun i ρ' acc ds H' => ER X.K S (C.pl [L]) (wipe σ vs) H' (wipeE ρ' vs) ∧ Adv (C.mo S σ ρ1) H1 ((C.pl [L]).mo S (wipe σ vs) (wipeE ρ' vs)) H' ∧
    H' L = some (.lst acc) ∧ Reps X.K S.T ((C.pl [L]).O S (wipe σ vs) (wipeE ρ' vs)) H' acc ds ∧ acc.length ≤ i ∧ ¬ EC.M S (wipe σ vs) (wipeE ρ' vs) L ∧
    Wp (lcL vs g cnd elt (xs.drop i) ρ') (XOk X.K S W C) (fun r => ∀ p H2, H p = none → ¬ C.O S σ (restE ρ1 r.2 vs) p → ER X.K S (C.pl [p]) σ H2 (restE ρ1 r.2 vs) → Adv (C.mo S σ ρ) H (C.mo S σ (restE ρ1 r.2 vs)) H2 → OwnAt X.K S.T ((C.pl [p]).O S σ (restE ρ1 r.2 vs)) H2 p (.lst (ds ++ r.1)) → Q (.ref p) H2)
  have hC0 : C.H0 L = none := E1.h0 hL
  have nO : ¬ C.O S σ ρ1 L := OH.fresh E1.omut hL
  have nM : ¬ EC.M S σ ρ1 L := fun z => nO (.inr z)
  refine ⟨fun i m H' => m = xs.length - i ∧ i ≤ xs.length ∧ ∃ ρ' acc ds, Pv i ρ' acc ds H', ⟨xs.length, rfl, Nat.zero_le _, ρ1, [], [], ?_⟩, ?_⟩
  · have x : Ex H1 (upd H1 L (.lst [])) := Ex.new hL
    refine ⟨(E1.alloc (u := .lst []) hL trivial).wiped ho hf, ?_, upd_same, .nil, Nat.le_refl _, fun z => nM ((M_wipe ho).mp z), ?_⟩
    · rw [mo_wipe ho]
      exact adv_plus hL x
    · refine (Wp.bind w2).mono (fun _ _ h => h) fun r _ h => ?_
      rw [List.nil_append]
      exact h
  rintro i m H' ⟨rfl, hi, ρ', acc, ds, E', A', hacc, rs, hle, nm, w'⟩
  by_cases hlt : i < xs.length
  · refine .inr ⟨I1.go _ H' i A'.ra hlt, fun H2 => ∃ ρ2 acc2 ds2, Pv (i + 1) ρ2 acc2 ds2 H2, fun H2 h => ⟨xs.length - (i + 1), by omega, rfl, hlt, h⟩, fun x H2 y => ?_⟩
    rw [drop_at hlt] at w'
    obtain ⟨ex, rp⟩ := I1.yld (C.pl [L]) S (wipe σ vs) H' (wipeE ρ' vs) i x H2 xs[i] rfl E' A'.ra y (by simp [hlt])
    have w' : Wp (noErr (g xs[i] (wipeE ρ' vs)) >>= fun ρ1 => noErr (cnd ρ1) >>= fun r => bif r.1 then noErr (elt r.2) >>= fun r2 => ofOpt (valOf r2.1) >>= fun x => lcL vs g cnd elt (xs.drop (i + 1)) r2.2 >>= fun r3 => (.ok (x :: r3.1, r3.2) : Res (List D × Env)) else lcL vs g cnd elt (xs.drop (i + 1)) r.2) _ _ := w'
    refine ⟨C.pl [L], wipeE ρ' vs, xs[i], E'.ext ex, rp, (noErr_wp w').mono (fun _ _ h => h) fun ρ3 _ w3 σ3 H3 E3 A3 z3 => ⟨?_, ?_⟩⟩
    · rw [z3 vs hts]
      have idem : ∀ ws : List Nat, (∀ v, v ∈ ws → v ∈ vs) → wipe (wipe σ vs) ws = wipe σ vs := by
        intro ws
        induction ws with
        | nil => intro _; rfl
        | cons k ws ih =>
          intro hk
          show (wipe (wipe σ vs) ws).set k none = wipe σ vs
          rw [ih fun v m => hk v (List.mem_cons_of_mem _ m)]
          have at_k : ∀ us : List Nat, k ∈ us → (wipe σ us).set k none = wipe σ us := by
            intro us
            induction us with
            | nil => intro m; simp at m
            | cons j us ih2 =>
              intro m
              show ((wipe σ us).set j none).set k none = (wipe σ us).set j none
              by_cases e : k = j
              · subst e; rw [List.set_set]
              · rw [List.set_comm _ _ (Ne.symm e), ih2 ((List.mem_cons.mp m).resolve_left e)]
          exact at_k vs (hk k List.mem_cons_self)
      exact idem vs fun _ m => m
    · have hwz : wipe σ3 vs = wipe σ vs := by
        rw [z3 vs hts]
        have idem : ∀ ws : List Nat, (∀ v, v ∈ ws → v ∈ vs) → wipe (wipe σ vs) ws = wipe σ vs := by
          intro ws
          induction ws with
          | nil => intro _; rfl
          | cons k ws ih =>
            intro hk
            show (wipe (wipe σ vs) ws).set k none = wipe σ vs
            rw [ih fun v m => hk v (List.mem_cons_of_mem _ m)]
            have at_k : ∀ us : List Nat, k ∈ us → (wipe σ us).set k none = wipe σ us := by
              intro us
              induction us with
              | nil => intro m; simp at m
              | cons j us ih2 =>
                intro m
                show ((wipe σ us).set j none).set k none = (wipe σ us).set j none
                by_cases e : k = j
                · subst e; rw [List.set_set]
                · rw [List.set_comm _ _ (Ne.symm e), ih2 ((List.mem_cons.mp m).resolve_left e)]
            exact at_k vs (hk k List.mem_cons_self)
        exact idem vs fun _ m => m
      have A3' := (A'.trans ex.adv).trans A3
      have hL2 : H2 L = some (.lst acc) := ex L _ hacc
      have hL3 : H3 L = some (.lst acc) := A3.st L _ nm hL2
      have nm3 : ¬ EC.M S σ3 ρ3 L := fun z => (A3.mn L z).elim nm fun e => by rw [hL2] at e; cases e
      have rs3 := (rs.adv ex.ra).adv A3.ra
      -- the next turn, from any later moment of this one
      have next : ∀ (ρ4 : Env) (H4 : Hp) (acc4 : List V) (ds4 : List D), ER X.K S (C.pl [L]) σ3 H4 ρ4 → Adv (C.mo S σ ρ1) H1 ((C.pl [L]).mo S σ3 ρ4) H4 → H4 L = some (.lst acc4) → Reps X.K S.T ((C.pl [L]).O S σ3 ρ4) H4 acc4 ds4 → acc4.length ≤ i + 1 → ¬ EC.M S σ3 ρ4 L →
          Wp (lcL vs g cnd elt (xs.drop (i + 1)) ρ4) (XOk X.K S W C) (fun r => ∀ p H2, H p = none → ¬ C.O S σ (restE ρ1 r.2 vs) p → ER X.K S (C.pl [p]) σ H2 (restE ρ1 r.2 vs) → Adv (C.mo S σ ρ) H (C.mo S σ (restE ρ1 r.2 vs)) H2 → OwnAt X.K S.T ((C.pl [p]).O S σ (restE ρ1 r.2 vs)) H2 p (.lst (ds4 ++ r.1)) → Q (.ref p) H2) →
          ∃ ρ2 acc2 ds2, Pv (i + 1) ρ2 acc2 ds2 H4 := fun ρ4 H4 acc4 ds4 E4 A4 h4 r4 l4 n4 w4 => by
        refine ⟨ρ4, acc4, ds4, hwz ▸ E4.wiped ho hf, ?_, h4, ?_, l4, ?_, w4⟩
        · rw [← hwz, mo_wipe ho]; exact A4
        · rw [← hwz, O_wipe ho]; exact r4
        · rw [← hwz]; exact fun z => n4 ((M_wipe ho).mp z)
      refine qt (C.pl [L]) σ3 H3 ρ3 _ E3 ((noErr_wp w3).mono (fun _ _ h => h) fun r4 _ w4 H4 E4 A4 => ?_)
      obtain ⟨b, ρ4⟩ := r4
      have hL4 : H4 L = some (.lst acc) := A4.st L _ nm3 hL3
      have nm4 : ¬ EC.M S σ3 ρ4 L := fun z => (A4.mn L z).elim nm3 fun e => by rw [hL3] at e; cases e
      cases b with
      | false => exact next ρ4 H4 acc ds E4 (A3'.trans A4) hL4 (rs3.adv A4.ra) (by omega) nm4 w4
      | true =>
        refine ⟨C.pl [L], ρ4, E4, (noErr_wp w4).mono (fun _ _ h => h) fun r5 _ w5 v5 H5 E5 A5 R5 => ?_⟩
        obtain ⟨x5, e5, w6⟩ := opt_wp w5
        have hL5 : H5 L = some (.lst acc) := A5.st L _ nm4 hL4
        have nm5 : ¬ EC.M S σ3 r5.2 L := fun z => (A5.mn L z).elim nm4 fun e => by rw [hL4] at e; cases e
        have rs5 := (rs3.adv A4.ra).adv A5.ra
        refine ⟨acc, hL5, Nat.lt_of_le_of_lt hle (Nat.lt_of_lt_of_le hlt hz), ?_⟩
        have E6 := E5.mutNew (u := .lst (acc ++ [v5])) hC0 nm5 hL5 trivial trivial
        have ra6 : RA ((C.pl [L]).O S σ3 r5.2) H5 ((C.pl [L]).O S σ3 r5.2) (upd H5 L (.lst (acc ++ [v5]))) := by
          have op : (C.pl [L]).O S σ3 r5.2 L := .inl (.inr (List.mem_singleton.mpr rfl))
          refine ⟨fun b v n h => ?_, fun b z => .inl z, fun b h => ?_⟩
          · have ne : b ≠ L := fun e => n (e ▸ op)
            rcases h with h | ⟨o, h⟩
            · exact .inl (by rw [upd_ne ne]; exact h)
            · exact .inr ⟨o, by rw [upd_ne ne]; exact h⟩
          · by_cases e : b = L
            · subst e; rw [upd_same]; exact some_ne rfl
            · rw [upd_ne e]; exact h
        refine next r5.2 _ (acc ++ [v5]) (ds ++ [x5]) E6 (((A3'.trans A4).trans A5).mutNew hL (by rw [hL5]; exact some_ne rfl)) upd_same ((rs5.adv ra6).snoc ((R5.val e5).adv ra6)) (by rw [List.length_append]; simp; omega) nm5 ?_
        refine (Wp.bind w6).mono (fun _ _ h => h) fun r6 _ h => ?_
        rw [List.append_assoc]
        exact h
  · have ei : i = xs.length := by omega
    subst ei
    rw [List.drop_length] at w'
    refine .inl ⟨I1.stop _ H' A'.ra, ?_⟩
    have hl : ρ'.length = ρ1.length := by
      have h1 := E'.len
      rw [wipeE_length, wipe_length] at h1
      exact h1.trans E1.len.symm
    have E2 : ER X.K S (C.pl [L]) σ H' (restE ρ1 ρ' vs) := E'.rest E1 A'.ra ho E1.fx
    have emo : (C.pl [L]).mo S σ (restE ρ1 ρ' vs) = (C.pl [L]).mo S (wipe σ vs) (wipeE ρ' vs) := mo_rest hl ho
    have A2 : Adv (C.mo S σ ρ1) H1 (C.mo S σ (restE ρ1 ρ' vs)) H' := by
      rw [← emo] at A'
      exact A'.trans adv_unplus
    have hm : EC.M S σ (restE ρ1 ρ' vs) L → False := fun z => nm ((M_rest hl ho).mp z)
    refine w' L H' (A1.back hL) (fun z => z.elim (fun z => nO (.inl z)) hm) E2 (A1.trans A2) ?_
    rw [List.append_nil]
    refine ⟨acc, hacc, ?_⟩
    rw [show (C.pl [L]).O S σ (restE ρ1 ρ' vs) = (C.pl [L]).O S (wipe σ vs) (wipeE ρ' vs) from congrArg MO.O emo]
    exact rs
def cYes : Env → Res (Bool × Env) := fun ρ => .ok (true, ρ)
/-- [elt for tg in iter] -/
theorem ef_lc {elt tg iter : Expr} {scope : Scope} {own : List (Str × Nat)} {ts : List Nat} {fi : Env → Res (List D × Env)} {g : D → Env → Res Env} {fe : SE} (hc : X.calm = true) (hN : X.N.Nodup) (ho : ∀ v, v ∈ own.map (·.2) → v ∉ S.ow) (hf : ∀ v, v ∈ own.map (·.2) → v ∉ S.fx) (hts : ∀ i, i ∈ ts → i ∈ own.map (·.2))
    (hi : EvI X S W tg iter fi) (ok : BlkOk X.N X.env.scope scope own)
    (hg : ∀ (s : Shared) (H : Hp) (C : Addr) (cl : List (Str × Addr)) (fp : List Addr), EvG (X.blk s H scope (compEnvC scope cl C X.env) fp) S ts tg g)
    (he : ∀ (s : Shared) (H : Hp) (C : Addr) (cl : List (Str × Addr)) (fp : List Addr), EvE (X.blk s H scope (compEnvC scope cl C X.env) fp) S WF elt fe) (hs : ∀ x, foldedSetIterable iter X.env x = pure x := by intro _; rfl) :
    EvF X S W (.ListComp elt [⟨tg, iter, [], 0⟩] scope pos) (fLc (own.map (·.2)) fi g cYes fe) := by
  obtain ⟨wi, pi, qi⟩ := hi
  refine ⟨_, pe_lc hc hN pi ok (g := canG X.K S ts g) (tt := tYes) (te := canE X.K S WF fe) (fun s H C cl fp => (hg s H C cl fp).can) (fun _ _ _ _ _ => pts_nil) (fun s H C cl fp => (he s H C cl fp).can) hs, fun C σ H ρ Q E w => ?_⟩
  exact lc_can (cnd := cYes) ho hf hts qi (fun C σ H ρ Q E w => w H E (.refl _ _)) C σ H ρ Q E w
/-- [elt for tg in iter if c] -/
theorem ef_lcIf {elt tg iter c : Expr} {scope : Scope} {own : List (Str × Nat)} {ts : List Nat} {fi : Env → Res (List D × Env)} {g : D → Env → Res Env} {fc : Env → Res (Bool × Env)} {fe : SE} (hc : X.calm = true) (hN : X.N.Nodup) (ho : ∀ v, v ∈ own.map (·.2) → v ∉ S.ow) (hf : ∀ v, v ∈ own.map (·.2) → v ∉ S.fx) (hts : ∀ i, i ∈ ts → i ∈ own.map (·.2))
    (hi : EvI X S W tg iter fi) (ok : BlkOk X.N X.env.scope scope own)
    (hg : ∀ (s : Shared) (H : Hp) (C : Addr) (cl : List (Str × Addr)) (fp : List Addr), EvG (X.blk s H scope (compEnvC scope cl C X.env) fp) S ts tg g)
    (ht : ∀ (s : Shared) (H : Hp) (C : Addr) (cl : List (Str × Addr)) (fp : List Addr), EvT (X.blk s H scope (compEnvC scope cl C X.env) fp) S WF c fc)
    (he : ∀ (s : Shared) (H : Hp) (C : Addr) (cl : List (Str × Addr)) (fp : List Addr), EvE (X.blk s H scope (compEnvC scope cl C X.env) fp) S WF elt fe) (hs : ∀ x, foldedSetIterable iter X.env x = pure x := by intro _; rfl) :
    EvF X S W (.ListComp elt [⟨tg, iter, [c], 0⟩] scope pos) (fLc (own.map (·.2)) fi g fc fe) := by
  obtain ⟨wi, pi, qi⟩ := hi
  refine ⟨_, pe_lc hc hN pi ok (g := canG X.K S ts g) (tt := canT X.K S WF fc) (te := canE X.K S WF fe) (fun s H C cl fp => (hg s H C cl fp).can) (fun s H C cl fp => pts_one (ht s H C cl fp).can) (fun s H C cl fp => (he s H C cl fp).can) hs, fun C σ H ρ Q E w => ?_⟩
  exact lc_can ho hf hts qi (fun C σ H ρ Q E w => ⟨C, ρ, E, w⟩) C σ H ρ Q E w
end
end EV

namespace EV
open PySem PySem.Spec L2 SX
open PyProof.Rows hiding St

/-! ### data that == reads -/
mutual
def D.lay : D → Bool
  | .tup xs => layL xs
  | .lst xs => layL xs
  | .dk _ => false
  | .dt _ => false
  | .fn _ => false
  | .scr _ => false
  | _ => true
def layL : List D → Bool
  | [] => true
  | d :: r => d.lay && layL r
end
mutual
def D.py : D → PyData
  | .non => .none
  | .bl b => .bool b
  | .int i => .int i
  | .str s => .str (S s)
  | .tup xs => .tuple (pyL xs)
  | .lst xs => .list (pyL xs)
  | .dk _ => .none
  | .dt _ => .none
  | .fn _ => .none
  | .scr _ => .none
def pyL : List D → List PyData
  | [] => []
  | d :: r => d.py :: pyL r
end
mutual
def D.dep : D → Nat
  | .tup xs => depL xs + 1
  | .lst xs => depL xs + 1
  | _ => 0
def depL : List D → Nat
  | [] => 0
  | d :: r => max d.dep (depL r)
end
mutual
/-- == -/
def D.eqv : D → D → Bool
  | .non, .non => true
  | .bl a, .bl b => a == b
  | .bl a, .int j => (if a then 1 else 0) == j
  | .int i, .bl b => i == (if b then 1 else 0)
  | .int i, .int j => i == j
  | .str x, .str y => x == y
  | .lst xs, .lst ys => eqvL xs ys
  | .tup xs, .tup ys => eqvL xs ys
  | _, _ => false
def eqvL : List D → List D → Bool
  | [], [] => true
  | x :: xs, y :: ys => x.eqv y && eqvL xs ys
  | _, _ => false
end
theorem pyL_map : ∀ xs : List D, pyL xs = xs.map D.py
  | [] => by simp [pyL]
  | d :: r => by simp [pyL, pyL_map r]
mutual
theorem py_dep : ∀ d : D, d.lay = true → d.py.depth = d.dep
  | .non, _ => by simp [D.py, D.dep, PyData.depth]
  | .bl _, _ => by simp [D.py, D.dep, PyData.depth]
  | .int _, _ => by simp [D.py, D.dep, PyData.depth]
  | .str _, _ => by simp [D.py, D.dep, PyData.depth]
  | .tup xs, h => by
    simp only [D.py, D.dep, PyData.depth]
    rw [pyL_dep xs (by simpa [D.lay] using h)]
  | .lst xs, h => by
    simp only [D.py, D.dep, PyData.depth]
    rw [pyL_dep xs (by simpa [D.lay] using h)]
  | .dk _, h => by simp [D.lay] at h
  | .dt _, h => by simp [D.lay] at h
  | .fn _, h => by simp [D.lay] at h
  | .scr _, h => by simp [D.lay] at h
theorem pyL_dep : ∀ xs : List D, layL xs = true → PyData.depthAll (pyL xs) = depL xs
  | [], _ => by simp [pyL, depL, PyData.depthAll]
  | d :: r, h => by
    have h' : d.lay = true ∧ layL r = true := by simpa [layL] using h
    simp only [pyL, depL, PyData.depthAll]
    rw [py_dep d h'.1, pyL_dep r h'.2]
end
mutual
theorem py_eqv : ∀ a b : D, a.lay = true → b.lay = true → PyData.eqv a.py b.py = a.eqv b
  | .non, b, _, hb => by cases b <;> simp_all [D.py, D.eqv, PyData.eqv, D.lay]
  | .bl x, b, _, hb => by cases b <;> simp_all [D.py, D.eqv, PyData.eqv, D.lay]
  | .int x, b, _, hb => by cases b <;> simp_all [D.py, D.eqv, PyData.eqv, D.lay]
  | .str x, b, _, hb => by cases b <;> simp_all [D.py, D.eqv, PyData.eqv, D.lay, S_beq]
  | .tup xs, b, ha, hb => by
    cases b with
    | tup ys =>
      simp only [D.py, D.eqv, PyData.eqv]
      exact pyL_eqv xs ys (by simpa [D.lay] using ha) (by simpa [D.lay] using hb)
    | _ => simp_all [D.py, D.eqv, PyData.eqv, D.lay]
  | .lst xs, b, ha, hb => by
    cases b with
    | lst ys =>
      simp only [D.py, D.eqv, PyData.eqv]
      exact pyL_eqv xs ys (by simpa [D.lay] using ha) (by simpa [D.lay] using hb)
    | _ => simp_all [D.py, D.eqv, PyData.eqv, D.lay]
  | .dk _, _, h, _ => by simp [D.lay] at h
  | .dt _, _, h, _ => by simp [D.lay] at h
  | .fn _, _, h, _ => by simp [D.lay] at h
  | .scr _, _, h, _ => by simp [D.lay] at h
theorem pyL_eqv : ∀ xs ys : List D, layL xs = true → layL ys = true → PyData.eqvAll (pyL xs) (pyL ys) = eqvL xs ys
  | [], [], _, _ => by simp [pyL, eqvL, PyData.eqvAll]
  | [], _ :: _, _, _ => by simp [pyL, eqvL, PyData.eqvAll]
  | _ :: _, [], _, _ => by simp [pyL, eqvL, PyData.eqvAll]
  | x :: xs, y :: ys, h, h2 => by
    have h' : x.lay = true ∧ layL xs = true := by simpa [layL] using h
    have h2' : y.lay = true ∧ layL ys = true := by simpa [layL] using h2
    simp only [pyL, eqvL, PyData.eqvAll]
    rw [py_eqv x y h'.1 h2'.1, pyL_eqv xs ys h'.2 h2'.2]
end
section
variable {K : PySem.W.Frag} {T : Nat → Option Addr} {O : Addr → Prop} {H : Hp}
mutual
theorem Rep.dp : ∀ (d : D) (v : V), Rep K T O H v d → d.lay = true → Dp K H v d.py ∧ d.py.canLay0 = true
  | .non, _, h, _ => by cases h; exact ⟨by rw [D.py]; exact .non, by simp [D.py, PyData.canLay0]⟩
  | .bl b, _, h, _ => by cases h; exact ⟨by rw [D.py]; exact .bl b, by simp [D.py, PyData.canLay0]⟩
  | .int i, _, h, _ => by cases h; exact ⟨by rw [D.py]; exact .int i, by simp [D.py, PyData.canLay0]⟩
  | .str s, _, h, _ => by
    cases h with
    | str _ hs =>
      refine ⟨by rw [D.py]; exact .str (S s), ?_⟩
      rw [D.py, PyData.canLay0]
      show (S s).cps.all (· < 0x110000) = true
      rw [Array.all_eq_true']
      intro c hc
      exact decide_eq_true (hs c (by simpa using hc))
  | .tup xs, _, h, hl => by
    cases h with
    | tup h1 h2 =>
      obtain ⟨q1, q2⟩ := Reps.dp xs _ h2 (by simpa [D.lay] using hl)
      exact ⟨by rw [D.py]; exact .tup h1.sq q1, by rw [D.py, PyData.canLay0]; exact q2⟩
  | .lst xs, _, h, hl => by
    cases h with
    | lst h0 h1 h2 =>
      obtain ⟨q1, q2⟩ := Reps.dp xs _ h2 (by simpa [D.lay] using hl)
      exact ⟨by rw [D.py]; exact .lst (.inl h1) q1, by rw [D.py, PyData.canLay0]; exact q2⟩
  | .dk _, _, _, h => by simp [D.lay] at h
  | .dt _, _, _, h => by simp [D.lay] at h
  | .fn _, _, _, h => by simp [D.lay] at h
  | .scr _, _, _, h => by simp [D.lay] at h
theorem Reps.dp : ∀ (ds : List D) (vs : List V), Reps K T O H vs ds → layL ds = true → DpAll K H vs (pyL ds) ∧ PyData.canLayAll0 (pyL ds) = true
  | [], _, h, _ => by cases h; exact ⟨by rw [pyL]; exact .nil, by simp [pyL, PyData.canLayAll0]⟩
  | d :: ds, _, h, hl => by
    have h' : d.lay = true ∧ layL ds = true := by simpa [layL] using hl
    cases h with
    | cons h1 h2 =>
      obtain ⟨a1, a2⟩ := Rep.dp d _ h1 h'.1
      obtain ⟨b1, b2⟩ := Reps.dp ds _ h2 h'.2
      exact ⟨by rw [pyL]; exact .cons a1 b1, by rw [pyL, PyData.canLayAll0, a2, b2]; rfl⟩
end
theorem RT.dp {d : D} {v : V} (h : RT K T O H v d) (hl : d.lay = true) : Dp K H v d.py ∧ d.py.canLay0 = true := by
  rcases h with h | ⟨a, rfl, h⟩
  · exact h.dp _ _ hl
  · cases d with
    | lst xs =>
      obtain ⟨vs, h1, h2⟩ := h
      obtain ⟨q1, q2⟩ := h2.dp xs _ (by simpa [D.lay] using hl)
      exact ⟨by rw [D.py]; exact .lst (SqL.of h1) q1, by rw [D.py, PyData.canLay0]; exact q2⟩
    | dk _ => simp [D.lay] at hl
    | dt _ => simp [D.lay] at hl
    | _ => exact h.elim
end

/-! ### operations -/
section
variable {X : Cx} {f : Value → Value → Sem Value} {g g' : D → D → Option D}
theorem OpD.or (h : OpD X f g) (h' : OpD X f g') : OpD X f (fun a b => (g a b).or (g' a b)) := by
  obtain ⟨r, hr, qr⟩ := h
  obtain ⟨r', hr', qr'⟩ := h'
  refine ⟨_, hr.or hr', fun T O H v1 v2 d1 d2 d Q oh h1 h2 e k => ?_⟩
  have e' : (g d1 d2).or (g' d1 d2) = some d := e
  cases q : g d1 d2 with
  | some x => rw [q] at e'; cases e'; exact .inl (qr T O H v1 v2 d1 d2 _ Q oh h1 h2 q k)
  | none => rw [q] at e'; exact .inr (qr' T O H v1 v2 d1 d2 _ Q oh h1 h2 e' k)
def onII (f : Int → Int → Option D) : D → D → Option D
  | .int i, .int j => f i j
  | _, _ => none
theorem onII_some {f : Int → Int → Option D} {a b d : D} (h : onII f a b = some d) : ∃ i j, a = .int i ∧ b = .int j ∧ f i j = some d := by
  unfold onII at h
  split at h
  · exact ⟨_, _, rfl, rfl, h⟩
  · cases h
def onSS (f : List Nat → List Nat → Option D) : D → D → Option D
  | .str i, .str j => f i j
  | _, _ => none
theorem onSS_some {f : List Nat → List Nat → Option D} {a b d : D} (h : onSS f a b = some d) : ∃ i j, a = .str i ∧ b = .str j ∧ f i j = some d := by
  unfold onSS at h
  split at h
  · exact ⟨_, _, rfl, rfl, h⟩
  · cases h
theorem int_opD {k : Int → Int → Int} (h : OpR X f (rI0 fun i j => .int (k i j))) : OpD X f (onII fun i j => some (.int (k i j))) :=
  ⟨_, h, fun T O H v1 v2 d1 d2 d Q oh h1 h2 e q => by
    obtain ⟨i, j, rfl, rfl, e'⟩ := onII_some e
    cases e'
    exact ⟨i, j, h1.int, h2.int, q _ H (.refl _) (.int _)⟩⟩
theorem int_opDC {C : Int → Int → Prop} [∀ i j, Decidable (C i j)] {k : Int → Int → Int} (h : OpR X f (rI C fun i j => .int (k i j))) : OpD X f (onII fun i j => if C i j then some (.int (k i j)) else none) :=
  ⟨_, h, fun T O H v1 v2 d1 d2 d Q oh h1 h2 e q => by
    obtain ⟨i, j, rfl, rfl, e'⟩ := onII_some e
    split at e'
    · rename_i hc
      cases e'
      exact ⟨i, j, h1.int, h2.int, hc, q _ H (.refl _) (.int _)⟩
    · cases e'⟩
theorem int_cmpD {k : Int → Int → Bool} (h : OpR X f (rI0 fun i j => .bl (k i j))) : OpD X f (onII fun i j => some (.bl (k i j))) :=
  ⟨_, h, fun T O H v1 v2 d1 d2 d Q oh h1 h2 e q => by
    obtain ⟨i, j, rfl, rfl, e'⟩ := onII_some e
    cases e'
    exact ⟨i, j, h1.int, h2.int, q _ H (.refl _) (.bl _)⟩⟩
instance (i j : Int) : Decidable (CMul i j) := inferInstanceAs (Decidable (_ ∨ _))
instance (i j : Int) : Decidable (CDiv i j) := inferInstanceAs (Decidable (_ ∧ _))
instance (i j : Int) : Decidable (CPow i j) := inferInstanceAs (Decidable (_ ∧ _))
def dSub : D → D → Option D := onII fun i j => some (.int (i - j))
theorem od_sub : OpD X (binaryOp .Sub) dSub := int_opD op_sub
def dMulI : D → D → Option D := onII fun i j => if CMul i j then some (.int (i * j)) else none
def dDiv : D → D → Option D := onII fun i j => if CDiv i j then some (.int (i / j)) else none
theorem od_div : OpD X (binaryOp .FloorDiv) dDiv := int_opDC op_fdiv
def dMod : D → D → Option D := onII fun i j => if 0 < j then some (.int (i % j)) else none
theorem od_mod : OpD X (binaryOp .Mod) dMod := int_opDC (C := fun _ j => 0 < j) op_mod
def dPow : D → D → Option D := onII fun i j => if CPow i j then some (.int (i ^ j.toNat)) else none
theorem od_pow : OpD X (binaryOp .Pow) dPow := int_opDC op_pow
def dLt : D → D → Option D := onII fun i j => some (.bl (decide (i < j)))
def dLe : D → D → Option D := onII fun i j => some (.bl (decide (i ≤ j)))
def dGt : D → D → Option D := onII fun i j => some (.bl (decide (j < i)))
def dGe : D → D → Option D := onII fun i j => some (.bl (decide (j ≤ i)))
theorem od_lt : OpD X (compareOp .Lt) dLt := int_cmpD op_lt
theorem od_le : OpD X (compareOp .LtE) dLe := int_cmpD op_le
theorem od_gt : OpD X (compareOp .Gt) dGt := int_cmpD op_gt
theorem od_ge : OpD X (compareOp .GtE) dGe := int_cmpD op_ge
/-- == , !=: of data -/
def eqOk (a b : D) : Bool := a.lay && b.lay && decide (min a.dep b.dep ≤ 64)
def dEq (a b : D) : Option D := if eqOk a b = true then some (.bl (a.eqv b)) else none
def dNe (a b : D) : Option D := if eqOk a b = true then some (.bl (!a.eqv b)) else none
def rEqP (K : PySem.W.Frag) (k : Bool → Bool) : R2 := fun x y H Q => ∃ d e : PyData, Dp K H x d ∧ Dp K H y e ∧ d.canLay0 = true ∧ e.canLay0 = true ∧ min d.depth e.depth ≤ 64 ∧ Q (.bl (k (PyData.eqv d e))) H
theorem op_eqP (hu : X.A.units + 64 < cLine) : OpR X (compareOp .Eq) (rEqP X.K id) := by
  intro pins s σ H x y v u Q I rx ry h
  obtain ⟨d, e, hd, he, sd, se, hm, q⟩ := h
  obtain ⟨as, r1⟩ := Dp.reads I d x v hd rx
  obtain ⟨bs, r2⟩ := Dp.reads I e y u he ry
  exact SeqAt.compareEq_reads r1 r2 sd se (by omega) ⟨.bl _, H, I, rfl, q⟩
theorem op_neP (hu : X.A.units + 64 < cLine) : OpR X (compareOp .NotEq) (rEqP X.K not) := by
  intro pins s σ H x y v u Q I rx ry h
  obtain ⟨d, e, hd, he, sd, se, hm, q⟩ := h
  obtain ⟨as, r1⟩ := Dp.reads I d x v hd rx
  obtain ⟨bs, r2⟩ := Dp.reads I e y u he ry
  exact SeqAt.compareNe_reads r1 r2 sd se (by omega) ⟨.bl _, H, I, rfl, q⟩
theorem eqOk_of {a b : D} (h : eqOk a b = true) : a.lay = true ∧ b.lay = true ∧ min a.dep b.dep ≤ 64 := by
  simp only [eqOk, Bool.and_eq_true, decide_eq_true_eq] at h
  exact ⟨h.1.1, h.1.2, h.2⟩
theorem od_eqk {k : Bool → Bool} {f : Value → Value → Sem Value} (h : OpR X f (rEqP X.K k)) : OpD X f (fun a b => if eqOk a b = true then some (.bl (k (a.eqv b))) else none) :=
  ⟨_, h, fun T O H v1 v2 d1 d2 d Q oh h1 h2 e q => by
    have e' : (if eqOk d1 d2 = true then some (D.bl (k (d1.eqv d2))) else none) = some d := e
    split at e'
    · rename_i hk
      cases e'
      obtain ⟨la, lb, hd⟩ := eqOk_of hk
      obtain ⟨p1, c1⟩ := h1.dp la
      obtain ⟨p2, c2⟩ := h2.dp lb
      refine ⟨_, _, p1, p2, c1, c2, by rw [py_dep _ la, py_dep _ lb]; exact hd, ?_⟩
      rw [py_eqv _ _ la lb]
      exact q _ H (.refl _) (.bl _)
    · cases e'⟩
theorem od_eq (hu : X.A.units + 64 < cLine) : OpD X (compareOp .Eq) dEq := od_eqk (op_eqP hu)
theorem od_ne (hu : X.A.units + 64 < cLine) : OpD X (compareOp .NotEq) dNe := od_eqk (op_neP hu)
/-- is None, is a bool -/
def isNon : D → Bool
  | .non => true
  | _ => false
def dIs (neg : Bool) (a b : D) : Option D := match b with
  | .non => some (.bl (isNon a != neg))
  | .bl y => match a with
    | .bl x => some (.bl (decide (x = y) != neg))
    | _ => none
  | _ => none
theorem RT.isnon {K : PySem.W.Frag} {T : Nat → Option Addr} {O : Addr → Prop} {H : Hp} {v : V} {d : D} (h : RT K T O H v d) : decide (v = .non) = isNon d := by
  rcases h with h | ⟨a, rfl, h⟩
  · cases h <;> rfl
  · cases d <;> first | rfl | exact h.elim
theorem dIs_some {neg : Bool} {a b d : D} (h : dIs neg a b = some d) : (b = .non ∧ d = .bl (isNon a != neg)) ∨ ∃ x y, a = .bl x ∧ b = .bl y ∧ d = .bl (decide (x = y) != neg) := by
  cases b with
  | non => cases h; exact .inl ⟨rfl, rfl⟩
  | bl y =>
    cases a with
    | bl x => cases h; exact .inr ⟨_, _, rfl, rfl, rfl⟩
    | _ => cases h
  | _ => cases h
theorem od_is : OpD X (compareOp .Is) (dIs false) :=
  ⟨_, op_isN.or op_isBl, fun T O H v1 v2 d1 d2 d Q oh h1 h2 e q => by
    rcases dIs_some e with ⟨rfl, rfl⟩ | ⟨x, y, rfl, rfl, rfl⟩
    · refine .inl ⟨h2.non, ?_⟩
      rw [h1.isnon]
      have := q _ H (.refl _) (.bl _)
      rw [Bool.bne_false] at this
      exact this
    · refine .inr ⟨x, y, h1.bl, h2.bl, ?_⟩
      have := q _ H (.refl _) (.bl _)
      rw [Bool.bne_false] at this
      exact this⟩
theorem od_isNot : OpD X (compareOp .IsNot) (dIs true) :=
  ⟨_, op_notN.or op_notBl, fun T O H v1 v2 d1 d2 d Q oh h1 h2 e q => by
    rcases dIs_some e with ⟨rfl, rfl⟩ | ⟨x, y, rfl, rfl, rfl⟩
    · refine .inl ⟨h2.non, ?_⟩
      rw [h1.isnon]
      have := q _ H (.refl _) (.bl _)
      rw [Bool.bne_true] at this
      exact this
    · refine .inr ⟨x, y, h1.bl, h2.bl, ?_⟩
      have := q _ H (.refl _) (.bl _)
      rw [Bool.bne_true] at this
      exact this⟩
/-- in, not in -/
def strIn (a b : List Nat) : Bool := !(Builtin.Str.occurrences (S b) (S a) 0 (S b).length 1).isEmpty
def anyEqv (x : D) : List D → Bool
  | [] => false
  | d :: r => d.eqv x || anyEqv x r
def inOk (x : D) (ds : List D) : Bool := x.lay && layL ds && decide (min (depL ds) x.dep ≤ 63)
def dIn (k : Bool → Bool) : D → D → Option D
  | x, .lst ds => if inOk x ds = true then some (.bl (k (anyEqv x ds))) else none
  | x, .tup ds => if inOk x ds = true then some (.bl (k (anyEqv x ds))) else none
  | .str a, .str b => some (.bl (k (strIn a b)))
  | _, _ => none
theorem anyEqv_py {x : D} (hx : x.lay = true) : ∀ {ds : List D}, layL ds = true → ((pyL ds).any fun z => PyData.eqv z x.py) = anyEqv x ds
  | [], _ => by simp [pyL, anyEqv]
  | d :: r, h => by
    have h' : d.lay = true ∧ layL r = true := by simpa [layL] using h
    simp only [pyL, anyEqv, List.any_cons]
    rw [py_eqv d x h'.1 hx, anyEqv_py hx h'.2]
def rInP (K : PySem.W.Frag) (k : Bool → Bool) : R2 := fun x y H Q => ∃ d ds, Dp K H x d ∧ (Dp K H y (.list ds) ∨ Dp K H y (.tuple ds)) ∧ d.canLay0 = true ∧ PyData.canLayAll0 ds = true ∧ min (PyData.depthAll ds) d.depth ≤ 63 ∧ Q (.bl (k (ds.any fun z => PyData.eqv z d))) H
theorem op_inP (hu : X.A.units + 65 < cLine) : OpR X (compareOp .In) (rInP X.K id) := by
  intro pins s σ H x y v u Q I rx ry h
  obtain ⟨d, ds, hd, he, sd, se, hm, q⟩ := h
  obtain ⟨as, r1⟩ := Dp.reads I d x v hd rx
  rcases he with he | he
  · obtain ⟨bs, r2⟩ := Dp.reads I (.list ds) y u he ry
    exact SeqAt.in_list_reads r2 r1 se sd (by omega) ⟨.bl _, H, I, rfl, q⟩
  · obtain ⟨bs, r2⟩ := Dp.reads I (.tuple ds) y u he ry
    exact SeqAt.in_tuple_reads r2 r1 se sd (by omega) ⟨.bl _, H, I, rfl, q⟩
theorem op_notInP (hu : X.A.units + 65 < cLine) : OpR X (compareOp .NotIn) (rInP X.K not) := by
  intro pins s σ H x y v u Q I rx ry h
  obtain ⟨d, ds, hd, he, sd, se, hm, q⟩ := h
  obtain ⟨as, r1⟩ := Dp.reads I d x v hd rx
  rcases he with he | he
  · obtain ⟨bs, r2⟩ := Dp.reads I (.list ds) y u he ry
    exact SeqAt.notIn_list_reads r2 r1 se sd (by omega) ⟨.bl _, H, I, rfl, q⟩
  · obtain ⟨bs, r2⟩ := Dp.reads I (.tuple ds) y u he ry
    exact SeqAt.notIn_tuple_reads r2 r1 se sd (by omega) ⟨.bl _, H, I, rfl, q⟩
theorem dIn_some {k : Bool → Bool} {a b d : D} (h : dIn k a b = some d) : (∃ ds, (b = .lst ds ∨ b = .tup ds) ∧ inOk a ds = true ∧ d = .bl (k (anyEqv a ds))) ∨ ∃ x y, a = .str x ∧ b = .str y ∧ d = .bl (k (strIn x y)) := by
  unfold dIn at h
  split at h
  · split at h
    · rename_i hk
      cases h
      exact .inl ⟨_, .inl rfl, hk, rfl⟩
    · cases h
  · split at h
    · rename_i hk
      cases h
      exact .inl ⟨_, .inr rfl, hk, rfl⟩
    · cases h
  · cases h; exact .inr ⟨_, _, rfl, rfl, rfl⟩
  · cases h
theorem od_ink {k : Bool → Bool} {f : Value → Value → Sem Value} (h : OpR X f (rInP X.K k)) (h' : OpR X f (fun x y H Q => ∃ i j, x = .str i ∧ y = .str j ∧ Q (.bl (k (!(Builtin.Str.occurrences j i 0 j.length 1).isEmpty))) H)) : OpD X f (dIn k) :=
  ⟨_, h.or h', fun T O H v1 v2 d1 d2 d Q oh h1 h2 e q => by
    rcases dIn_some e with ⟨ds, hb, hk, rfl⟩ | ⟨x, y, rfl, rfl, rfl⟩
    · simp only [inOk, Bool.and_eq_true, decide_eq_true_eq] at hk
      obtain ⟨⟨lx, ll⟩, hd⟩ := hk
      obtain ⟨p1, c1⟩ := h1.dp lx
      have hq := q _ H (.refl _) (.bl (k (anyEqv d1 ds)))
      rw [← anyEqv_py lx ll] at hq
      rcases hb with rfl | rfl
      · obtain ⟨p2, c2⟩ := h2.dp (show D.lay (.lst ds) = true by simpa [D.lay] using ll)
        refine .inl ⟨_, pyL ds, p1, .inl (by rw [D.py] at p2; exact p2), c1, by rw [D.py, PyData.canLay0] at c2; exact c2, by rw [pyL_dep _ ll, py_dep _ lx]; exact hd, hq⟩
      · obtain ⟨p2, c2⟩ := h2.dp (show D.lay (.tup ds) = true by simpa [D.lay] using ll)
        refine .inl ⟨_, pyL ds, p1, .inr (by rw [D.py] at p2; exact p2), c1, by rw [D.py, PyData.canLay0] at c2; exact c2, by rw [pyL_dep _ ll, py_dep _ lx]; exact hd, hq⟩
    · exact .inr ⟨_, _, h1.str, h2.str, q _ H (.refl _) (.bl _)⟩⟩
theorem od_in (hu : X.A.units + 65 < cLine) : OpD X (compareOp .In) (dIn id) := od_ink (op_inP hu) op_in_str
theorem od_notIn (hu : X.A.units + 65 < cLine) : OpD X (compareOp .NotIn) (dIn not) := od_ink (op_notInP hu) op_notin_str

/-! ### + -/
def onTT (f : List D → List D → Option D) : D → D → Option D
  | .tup i, .tup j => f i j
  | _, _ => none
theorem onTT_some {f : List D → List D → Option D} {a b d : D} (h : onTT f a b = some d) : ∃ i j, a = .tup i ∧ b = .tup j ∧ f i j = some d := by
  unfold onTT at h
  split at h
  · exact ⟨_, _, rfl, rfl, h⟩
  · cases h
def onLL (f : List D → List D → Option D) : D → D → Option D
  | .lst i, .lst j => f i j
  | _, _ => none
theorem onLL_some {f : List D → List D → Option D} {a b d : D} (h : onLL f a b = some d) : ∃ i j, a = .lst i ∧ b = .lst j ∧ f i j = some d := by
  unfold onLL at h
  split at h
  · exact ⟨_, _, rfl, rfl, h⟩
  · cases h
theorem Reps.append {K : PySem.W.Frag} {T : Nat → Option Addr} {O : Addr → Prop} {H : Hp} : ∀ {vs ws : List V} {ds es : List D}, Reps K T O H vs ds → Reps K T O H ws es → Reps K T O H (vs ++ ws) (ds ++ es)
  | _, _, _, _, .nil, h => h
  | _, _, _, _, .cons a b, h => .cons a (Reps.append b h)
theorem okS_append {a b : List Nat} (ha : okS a) (hb : okS b) : okS (a ++ b) := fun c hc => (List.mem_append.mp hc).elim (ha c) (hb c)
theorem od_addS : OpD X (binaryOp .Add) (onSS fun a b => if a.length + b.length ≤ LIM then some (.str (a ++ b)) else none) :=
  ⟨_, op_add_str, fun T O H v1 v2 d1 d2 d Q oh h1 h2 e q => by
    obtain ⟨a, b, rfl, rfl, e'⟩ := onSS_some e
    split at e'
    · rename_i hl
      cases e'
      refine ⟨S a, S b, h1.str, h2.str, by rw [S_len, S_len, lim_eq]; exact hl, ?_⟩
      rw [S_cat]
      exact q _ H (.refl _) (.str _ (okS_append h1.okS h2.okS))
    · cases e'⟩
theorem Reps.nil_iff {K : PySem.W.Frag} {T : Nat → Option Addr} {O : Addr → Prop} {H : Hp} {vs : List V} {ds : List D} (h : Reps K T O H vs ds) : vs = [] ↔ ds = [] := by
  cases h <;> simp
theorem od_addT : OpD X (binaryOp .Add) (onTT fun a b => if a.length + b.length ≤ LIM then some (.tup (a ++ b)) else none) :=
  ⟨_, EVN.op_catN, fun T O H v1 v2 d1 d2 d Q oh h1 h2 e q => by
    obtain ⟨a, b, rfl, rfl, e'⟩ := onTT_some e
    split at e'
    · rename_i hl
      cases e'
      obtain ⟨p1, vs1, rfl, s1, r1⟩ := h1.tup
      obtain ⟨p2, vs2, rfl, s2, r2⟩ := h2.tup
      refine ⟨p1, p2, vs1, vs2, rfl, rfl, s1.sq, s2.sq, by rw [r1.length, r2.length, lim_eq]; exact hl, fun e1 => ?_, fun e1 e2 => ?_, fun e1 e2 p o hp hd => ?_⟩
      · have : a = [] := r1.nil_iff.mp e1
        subst this
        exact q _ H (.refl _) (.tup s2 r2)
      · have : b = [] := r2.nil_iff.mp e2
        subst this
        exact q _ H (.refl _) (by rw [List.append_nil]; exact .tup s1 r1)
      · have x : Ex H (upd H p (.frz o (.tup (vs1 ++ vs2)))) := Ex.new hp
        exact q _ _ x (.tup (.fresh (OH.fresh oh hp) upd_same hd) ((r1.append r2).adv x.ra))
    · cases e'⟩
/-- list + list, of any lists that are read -/
def rCatL : R2 := fun x y H Q => ∃ l b xs zs, x = .ref l ∧ y = .ref b ∧ Rd H l (.lst xs) ∧ Rd H b (.lst zs) ∧ xs.length + zs.length ≤ sizeLine ∧ ∀ p, H p = none → Q (.ref p) (upd H p (.lst (xs ++ zs)))
theorem rd_lst {P : Program} {w : World} {H : Hp} {h : Heap} {l : Addr} {xs : List V} (r : Rd H l (.lst xs)) (ok : HOk P w H h) : xs.length ≤ sizeLine ∧ ∃ (its : List Value) (n : Nat), Vals xs its ∧ xs.length = its.length ∧ h.get? l = some { cls := .type "list", data := .seq its.toArray n } := by
  obtain ⟨z, its, n, r', e⟩ := r.ok ok
  exact ⟨z, its, n, r', r'.length, e⟩
theorem op_catL : OpR X (binaryOp .Add) rCatL := by
  intro pins s σ H x y v u Q I rx ry h
  obtain ⟨l, b, xs, zs, rfl, rfl, hH, hB, hz, q⟩ := h
  cases rx
  cases ry
  obtain ⟨z, its, n, r, hl, e⟩ := rd_lst hH I.hok
  obtain ⟨z2, its2, n2, r2, hl2, e2⟩ := rd_lst hB I.hok
  refine PySem.P.add_list e e2 ?_ (by rw [List.size_toArray, List.size_toArray]; omega)
  have ea : its.toArray ++ its2.toArray = (its ++ its2).toArray := by simp
  rw [ea]
  exact ⟨.ref _, _, I.lnew (t' := s.toks) (r.append r2) (by rw [List.length_append]; omega), rfl, q _ I.fresh⟩
def addL : List D → List D → Option D := fun a b => if a.length + b.length ≤ LIM then some (.lst (a ++ b)) else none
theorem od_addL : OpD X (binaryOp .Add) (onLL addL) :=
  ⟨_, op_catL, fun T O H v1 v2 d1 d2 d Q oh h1 h2 e q => by
    obtain ⟨a, b, rfl, rfl, e'⟩ := onLL_some e
    unfold addL at e'
    split at e'
    · rename_i hl
      cases e'
      obtain ⟨p1, vs1, rfl, s1, r1⟩ := h1.lst
      obtain ⟨p2, vs2, rfl, s2, r2⟩ := h2.lst
      refine ⟨p1, p2, vs1, vs2, rfl, rfl, s1, s2, by rw [r1.length, r2.length, lim_eq]; exact hl, fun p hp => ?_⟩
      have x : Ex H (upd H p (.lst (vs1 ++ vs2))) := Ex.new hp
      exact q _ _ x (.lst (OH.fresh oh hp) (.inl upd_same) ((r1.append r2).adv x.ra))
    · cases e'⟩
def dAdd : D → D → Option D
  | .int i, .int j => some (.int (i + j))
  | .str a, .str b => if a.length + b.length ≤ LIM then some (.str (a ++ b)) else none
  | .tup a, .tup b => if a.length + b.length ≤ LIM then some (.tup (a ++ b)) else none
  | .lst a, .lst b => addL a b
  | _, _ => none
theorem OpD.imp {f : Value → Value → Sem Value} {g g' : D → D → Option D} (h : OpD X f g) (hg : ∀ a b d, g' a b = some d → g a b = some d) : OpD X f g' := by
  obtain ⟨r, hr, qr⟩ := h
  exact ⟨r, hr, fun T O H v1 v2 d1 d2 d Q oh h1 h2 e q => qr T O H v1 v2 d1 d2 d Q oh h1 h2 (hg _ _ _ e) q⟩
theorem od_add : OpD X (binaryOp .Add) dAdd := by
  refine (((int_opD op_add).or od_addS).or (od_addT.or od_addL)).imp fun a b d h => ?_
  unfold dAdd at h
  split at h <;> simp_all [onII, onSS, onTT, onLL]
end
end EV

namespace EV
open PySem PySem.Spec L2 SX
open PyProof.Rows hiding St

/-! ### a def: what it makes of its arguments; lent arguments are handed back changed -/
structure FS where
  np : Nat
  bor : List Nat
  m : List D → Res (D × List D)
/-- the addresses that are lent -/
def borA (bor : List Nat) (vs : List V) (a : Addr) : Prop := ∃ k, k ∈ bor ∧ vs[k]? = some (.ref a)
/-- only what is lent has changed -/
structure FrB (bor : List Nat) (vs : List V) (H H' : Hp) : Prop where
  st : ∀ a u, H a = some u → borA bor vs a ∨ H' a = some u
  dm : ∀ a, H a ≠ none → H' a ≠ none
def ArgsR (K : PySem.W.Frag) (T : Nat → Option Addr) (O : Addr → Prop) (H : Hp) (bor : List Nat) : Nat → List V → List D → Prop
  | _, [], [] => True
  | k, v :: vs, d :: ds => (if k ∈ bor then ∃ a, v = .ref a ∧ O a ∧ OwnAt K T O H a d else Rep K T O H v d) ∧ ArgsR K T O H bor (k + 1) vs ds
  | _, _, _ => False
def BackR (K : PySem.W.Frag) (T : Nat → Option Addr) (O : Addr → Prop) (H : Hp) (bor : List Nat) (vs : List V) (ds : List D) : Prop :=
  ∀ k a, k ∈ bor → vs[k]? = some (.ref a) → ∃ d, ds[k]? = some d ∧ OwnAt K T O H a d
def DistR (bor : List Nat) (vs : List V) : Prop := ∀ k l a, k ∈ bor → l ∈ bor → vs[k]? = some (.ref a) → vs[l]? = some (.ref a) → k = l
/-- the promise of a def; S0: the table of defs, the classes of errors -/
def spF (K : PySem.W.Frag) (S0 : ES) (F : FS) : Sp := fun vs H Q E => ∃ (O : Addr → Prop) (ds : List D), vs.length = F.np ∧ OH O H ∧ ArgsR K S0.T O H F.bor 0 vs ds ∧ DistR F.bor vs ∧
  Wp (F.m ds) (fun c p => ∀ d H', FrB F.bor vs H H' → OH O H' → Pay K S0 O H' c d p → E (S0.cls c) d H')
    (fun r => ∀ v H', FrB F.bor vs H H' → OH O H' → Rep K S0.T O H' v r.1 → BackR K S0.T O H' F.bor vs r.2 → Q v H')
theorem ArgsR.length {K : PySem.W.Frag} {T : Nat → Option Addr} {O : Addr → Prop} {H : Hp} {bor : List Nat} : ∀ {k : Nat} {vs : List V} {ds : List D}, ArgsR K T O H bor k vs ds → vs.length = ds.length
  | _, [], [], _ => rfl
  | _, _ :: _, _ :: _, h => congrArg (· + 1) h.2.length
  | _, [], _ :: _, h => h.elim
  | _, _ :: _, [], h => h.elim
theorem ArgsR.get {K : PySem.W.Frag} {T : Nat → Option Addr} {O : Addr → Prop} {H : Hp} {bor : List Nat} : ∀ {k i : Nat} {vs : List V} {ds : List D} {d : D}, ArgsR K T O H bor k vs ds → ds[i]? = some d → ∃ v, vs[i]? = some v ∧ (if k + i ∈ bor then ∃ a, v = .ref a ∧ O a ∧ OwnAt K T O H a d else Rep K T O H v d)
  | _, _, [], [], _, _, e => by simp at e
  | k, 0, v :: vs, d' :: ds, d, h, e => by
    simp at e
    subst e
    exact ⟨v, rfl, h.1⟩
  | k, i + 1, v :: vs, d' :: ds, d, h, e => by
    obtain ⟨w, h1, h2⟩ := ArgsR.get (i := i) (d := d) h.2 (by simpa using e)
    refine ⟨w, by simpa using h1, ?_⟩
    rw [show k + (i + 1) = k + 1 + i by omega]
    exact h2
  | _, _, [], _ :: _, _, h, _ => h.elim
  | _, _, _ :: _, [], _, h, _ => h.elim

/-! ### the body of a def -/
/-- the slots at the entry -/
def start0 (n : Nat) (ds : List D) : Env := ds.map some ++ List.replicate (n - ds.length) none
/-- what a body's run hands back -/
def outB (np : Nat) (bor : List Nat) (d : D) (ρ : Env) : Res (D × List D) := bif bor.all (fun k => (gt ρ k).isSome) then .ok (d, (ρ.take np).map fun o => o.getD .non) else .stuck
def runB (n np : Nat) (bor : List Nat) (B : SS) (ds : List D) : Res (D × List D) := B (start0 n ds) >>= fun r => match r.1 with
  | .nx => outB np bor .non r.2
  | .ret d => outB np bor d r.2
  | _ => .stuck
theorem outB_wp {np : Nat} {bor : List Nat} {d : D} {ρ : Env} {X : Nat → D → Prop} {Q : D × List D → Prop} (h : Wp (outB np bor d ρ) X Q) : (∀ i, i ∈ bor → gt ρ i ≠ none) ∧ Q (d, (ρ.take np).map fun o => o.getD .non) := by
  unfold outB at h
  cases q : bor.all (fun k => (gt ρ k).isSome) with
  | false => rw [q] at h; exact h.elim
  | true =>
    rw [q] at h
    refine ⟨fun i hi e => ?_, h⟩
    have := List.all_eq_true.mp q i hi
    rw [e] at this
    cases this
theorem gt_eq : ∀ (ρ : Env) (i : Nat), gt ρ i = ρ.getD i none
  | [], i => by simp [gt]
  | _ :: _, 0 => rfl
  | _ :: r, i + 1 => by
    show gt r i = _
    rw [gt_eq r i]
    simp
theorem gt_start0 {n : Nat} {ds : List D} {i : Nat} {d : D} (h : gt (start0 n ds) i = some d) : ds[i]? = some d := by
  rw [gt_eq, List.getD_eq_getElem?_getD] at h
  unfold start0 at h
  by_cases hi : i < ds.length
  · rw [List.getElem?_append_left (by simpa using hi)] at h
    rw [List.getElem?_map, List.getElem?_eq_getElem hi] at h
    rw [List.getElem?_eq_getElem hi]
    simpa using h
  · rw [List.getElem?_append_right (by simpa using hi), List.getElem?_replicate] at h
    split at h <;> cases h
theorem start_at {N : List Str} {vs : List V} {i : Nat} {v : V} (h : vs[i]? = some v) : (L2.start N vs)[i]? = some (some v) := by
  unfold L2.start
  have hi : i < vs.length := (List.getElem?_eq_some_iff.mp h).1
  rw [List.getElem?_append_left (by simpa using hi), List.getElem?_map, h]
  rfl
/-- THE RULE: a def by its body. S: its slots; the lent parameters own what they hold and are never stored -/
theorem fn_ev {P : Program} {w : World} {K : PySem.W.Frag} {mg : Str → Option Value} {base : Heap} {x qual : Str} {stm : Stmt} {f : Addr} {fd : FuncData} {N ps : List Str} {k : Nat} {S0 : ES} {bor ow : List Nat} {B : SS} (F : Fun K x qual stm f fd) (Sc : FnScope N ps (defScope stm))
    (hb : ∀ i, i ∈ bor → i ∈ ow) (hbl : ∀ i, i ∈ bor → i < ps.length) (ho : ∀ i, i ∈ ow → i ∈ bor ∨ ps.length ≤ i)
    (hbody : ∀ (cdv : Value) (A : Around) (outer : List PySem.Env) (s : Shared) (H : Hp) (E : XK), Room k (A.deeper (envOfC qual (defScope stm) s.heap.objs.size f cdv)) →
      Takes (cxOf (L2.CX P w) P w K mg base N qual (defScope stm) f cdv A outer s H E) (fun cls d _ H => E cls d H) →
      EvB (cxOf (L2.CX P w) P w K mg base N qual (defScope stm) f cdv A outer s H E) { S0 with ow := ow, fx := bor } (fun cls d _ H => E cls d H) (defBody stm) B) :
    FnOk P w K mg base (L2.CX P w) (k + 1) f fd ps (spF K S0 ⟨ps.length, bor, runB N.length ps.length bor B⟩) := by
  refine F.okX Sc (fun vs H Q E h => ?_) fun cdv A outer s H vs Q E hr h => ?_
  · obtain ⟨O, ds, hl, _⟩ := h
    exact hl
  · obtain ⟨O, ds, hl, oh, ar, di, hw⟩ := h
    have hl : vs.length = ps.length := hl
    have tk : Takes (cxOf (L2.CX P w) P w K mg base N qual (defScope stm) f cdv A outer s H E) (fun cls d _ H => E cls d H) := takes_of rfl rfl rfl rfl
    obtain ⟨t, p, q⟩ := hbody cdv A outer s H E hr tk
    refine ⟨t, p, ?_⟩
    have hN : ps.length ≤ N.length := by
      have := congrArg List.length Sc.pre
      rw [List.length_take] at this
      omega
    have hds : ds.length = vs.length := ar.length.symm
    let S : ES := { S0 with ow := ow, fx := bor }
    let C : EC := ⟨H, O, fun i => (vs[i]?).getD .non, borA bor vs, []⟩
    have bO : ∀ a, borA bor vs a → O a := by
      rintro a ⟨k, hk, e⟩
      have hkl : k < ds.length := by rw [hds]; exact (List.getElem?_eq_some_iff.mp e).1
      obtain ⟨v, h1, h2⟩ := ar.get (i := k) (d := ds[k]) (by simp [hkl])
      rw [Nat.zero_add, if_pos hk] at h2
      obtain ⟨b, rfl, ob, _⟩ := h2
      rw [e] at h1
      obtain rfl : a = b := V.ref.inj (Option.some.inj h1)
      exact ob
    have hO : C.O S (L2.start N vs) (start0 N.length ds) = O := by
      funext a
      refine propext ⟨fun z => ?_, .inl⟩
      rcases z with z | ⟨i, h1, h2, h3⟩
      · exact z
      · obtain ⟨d, hd⟩ := gt_some h2
        have hd := gt_start0 hd
        have hi : i < ds.length := (List.getElem?_eq_some_iff.mp hd).1
        have ib : i ∈ bor := (ho i h1).resolve_right (by omega)
        obtain ⟨v, h4, h5⟩ := ar.get hd
        rw [Nat.zero_add, if_pos ib] at h5
        obtain ⟨b, rfl, ob, _⟩ := h5
        have h6 := start_at (N := N) h4
        rw [h3] at h6
        obtain rfl : a = b := V.ref.inj (Option.some.inj (Option.some.inj h6))
        exact ob
    have E0 : ER K S C (L2.start N vs) H (start0 N.length ds) := by
      refine ⟨?_, fun i d hi hd => ?_, fun i d hi hd => ?_, fun i j a hi hj h1 h2 h3 h4 => ?_, fun i hi => ?_, fun a u h => .inr (.inl h), fun a h => h, fun a o u h => (nomatch h), oh⟩
      · unfold start0 L2.start
        rw [List.length_append, List.length_append, List.length_map, List.length_map, List.length_replicate, List.length_replicate, hds]
      · obtain ⟨v, h1, h2⟩ := ar.get (gt_start0 hd)
        rw [Nat.zero_add, if_neg fun z => hi (hb i z)] at h2
        rw [hO]
        exact ⟨v, start_at h1, h2⟩
      · have hd := gt_start0 hd
        have hil : i < ds.length := (List.getElem?_eq_some_iff.mp hd).1
        have ib : i ∈ bor := (ho i hi).resolve_right (by omega)
        obtain ⟨v, h1, h2⟩ := ar.get hd
        rw [Nat.zero_add, if_pos ib] at h2
        obtain ⟨a, rfl, oa, ow'⟩ := h2
        rw [hO]
        exact ⟨a, start_at h1, ow', fun z => absurd ib z, .inl ⟨i, ib, h1⟩⟩
      · have low : ∀ {i}, i ∈ ow → gt (start0 N.length ds) i ≠ none → i ∈ bor ∧ ∃ v, vs[i]? = some v := fun {i} hi h => by
          obtain ⟨d, hd⟩ := gt_some h
          have hd := gt_start0 hd
          have hil : i < ds.length := (List.getElem?_eq_some_iff.mp hd).1
          exact ⟨(ho i hi).resolve_right (by omega), vs[i]'(by omega), by simp [show i < vs.length by omega]⟩
        obtain ⟨bi, vi, ei⟩ := low hi h1
        obtain ⟨bj, vj, ej⟩ := low hj h2
        have e3 := start_at (N := N) ei
        have e4 := start_at (N := N) ej
        rw [h3] at e3
        rw [h4] at e4
        cases e3
        cases e4
        exact di i j a bi bj ei ej
      · have hi2 : i ∈ bor := hi
        -- a lent parameter is one of the parameters
        show (L2.start N vs)[i]? = some (some ((vs[i]?).getD .non))
        by_cases hil : i < vs.length
        · have e : vs[i]? = some vs[i] := by simp [hil]
          rw [e]
          exact start_at e
        · exact absurd (hbl i hi2) (by rw [← hl]; exact hil)
    have frb : ∀ {σ' : St} {H' : Hp} {ρ' : Env}, ER K S C σ' H' ρ' → FrB bor vs H H' := fun {σ' H' ρ'} E' => ⟨fun a u h => (E'.fr a u h).imp id fun h => h.resolve_right fun ⟨o, m⟩ => (nomatch m), E'.dom⟩
    have oho : ∀ {σ' : St} {H' : Hp} {ρ' : Env}, ER K S C σ' H' ρ' → OH O H' := fun {σ' H' ρ'} E' a h => E'.o0 a h
    have lower : ∀ {σ' : St} {H' : Hp} {ρ' : Env}, RA (C.O S σ' ρ') H' O H' := sub_ra fun a h => .inl h
    have back : ∀ {σ' : St} {H' : Hp} {ρ' : Env}, ER K S C σ' H' ρ' → (∀ i, i ∈ bor → gt ρ' i ≠ none) → BackR K S0.T O H' bor vs ((ρ'.take ps.length).map fun o => o.getD .non) := fun {σ' H' ρ'} E' hl' k a hk e => by
      obtain ⟨d, hd⟩ := gt_some (hl' k hk)
      obtain ⟨b, e1, o1, _⟩ := E'.own k d (hb k hk) hd
      have e2 : σ'[k]? = some (some ((vs[k]?).getD .non)) := E'.fx k hk
      rw [e, e1] at e2
      obtain rfl : b = a := V.ref.inj (Option.some.inj (Option.some.inj e2))
      refine ⟨d, ?_, o1.adv lower rfl⟩
      rw [gt_eq, List.getD_eq_getElem?_getD] at hd
      rw [List.getElem?_map, List.getElem?_take_of_lt (hbl k hk)]
      cases q : ρ'[k]? with
      | none => rw [q] at hd; cases hd
      | some o =>
        rw [q] at hd
        have hd : o = some d := hd
        rw [hd]
        rfl
    refine q C _ H _ _ E0 ((Wp.bind (show Wp (runB N.length ps.length bor B ds) _ _ from hw)).mono (fun c p hx d σ' H' ρ' E' pay => hx d H' (frb E') (oho E') fun f hf => ?_) fun r1 e1 w1 σ1 H1 E1 A1 => ?_)
    · obtain ⟨dx, v, e1, e2, rp⟩ := pay f hf
      exact ⟨dx, v, e1, e2, rp.adv lower⟩
    · obtain ⟨fl, ρ1⟩ := r1
      cases fl with
      | nx =>
        obtain ⟨lv, q1⟩ := outB_wp w1
        exact q1 _ H1 (frb E1) (oho E1) .non (back E1 lv)
      | ret d =>
        obtain ⟨lv, q1⟩ := outB_wp w1
        exact fun v rp => q1 v H1 (frb E1) (oho E1) (rp.adv lower) (back E1 lv)
      | brk => exact w1.elim
      | cont => exact w1.elim
end EV

namespace EV
open PySem PySem.Spec L2 SX
open PyProof.Rows hiding St

/-! ### calls of own defs -/
section
variable {K : PySem.W.Frag} {S : ES} {C : EC} {σ : St} {H H' : Hp} {ρ : Env}
theorem gt_st_live' {i j : Nat} {x : Option D} (h : gt (st ρ i x) j ≠ none) : (j = i ∧ i < ρ.length ∧ ∃ d, x = some d) ∨ (j ≠ i ∧ gt ρ j ≠ none) := by
  cases x with
  | none =>
    by_cases e : j = i
    · subst e; rw [gt_st_none] at h; exact absurd rfl h
    · rw [gt_st_ne ρ i j _ e] at h; exact .inr ⟨e, h⟩
  | some d => exact (gt_st_live h).imp (fun z => ⟨z.1, z.2, d, rfl⟩) id
theorem M_chg {i : Nat} {d0 : D} {x : Option D} (hd : gt ρ i = some d0) {a : Addr} (h : EC.M S σ (st ρ i x) a) : EC.M S σ ρ a := by
  obtain ⟨j, h1, h2, h3⟩ := h
  rcases gt_st_live' h2 with ⟨rfl, _⟩ | ⟨_, q⟩
  · exact ⟨j, h1, some_ne hd, h3⟩
  · exact ⟨j, h1, q, h3⟩
theorem ER.chg {i : Nat} {d0 : D} {x : Option D} {a : Addr} (E : ER K S C σ H ρ) (hi : i ∈ S.ow) (hd : gt ρ i = some d0) (hs : σ[i]? = some (some (.ref a)))
    (hst : ∀ b u, H b = some u → b = a ∨ H' b = some u) (hdm : ∀ b, H b ≠ none → H' b ≠ none) (hm : ∃ u, Rd H' a u ∧ Mut (some u)) (how : ∀ d, x = some d → OwnAt K S.T (C.O S σ (st ρ i x)) H' a d) :
    ER K S C σ H' (st ρ i x) ∧ Adv (C.mo S σ ρ) H (C.mo S σ (st ρ i x)) H' := by
  have oa : C.O S σ ρ a := .inr ⟨i, hi, some_ne hd, hs⟩
  have oeq : ∀ b, C.O S σ (st ρ i x) b → C.O S σ ρ b := fun b z => z.imp id (M_chg hd)
  have rds : ∀ {b u}, b ≠ a → Rd H b u → Rd H' b u := fun {b u} ne h => by
    rcases h with h | ⟨o, h⟩
    · exact .inl ((hst b _ h).resolve_left ne)
    · exact .inr ⟨o, (hst b _ h).resolve_left ne⟩
  have ra : RA (C.O S σ ρ) H (C.O S σ (st ρ i x)) H' := ⟨fun b w n h => rds (fun e => n (e ▸ oa)) h, fun b z => .inl (oeq b z), hdm⟩
  obtain ⟨b, e1, o1, f1, f2⟩ := E.own i d0 hi hd
  rw [hs] at e1
  obtain rfl : a = b := V.ref.inj (Option.some.inj (Option.some.inj e1))
  obtain ⟨w0, hw0, mw0⟩ := o1.mut
  refine ⟨⟨by rw [st_length]; exact E.len, fun j d' hj hd' => ?_, fun j d' hj hd' => ?_, fun j k b hj hk h1 h2 h3 h4 => ?_, E.fx, fun b w h => ?_, fun b h => hdm b (E.dom b h), fun b o w h => ?_, fun b h => ?_⟩, ⟨fun b w n h => ?_, fun b z => .inl (M_chg hd z), fun b z => .inl (oeq b z), hdm⟩⟩
  · have ne : j ≠ i := fun e => hj (e ▸ hi)
    rw [gt_st_ne ρ i j _ ne] at hd'
    obtain ⟨v, h1, h2⟩ := E.sh j d' hj hd'
    exact ⟨v, h1, h2.adv ra⟩
  · by_cases e : j = i
    · subst e
      have e2 : x = some d' := by
        rw [gt_st_same ρ j _ (gt_lt hd)] at hd'
        exact hd'
      exact ⟨a, hs, how d' e2, f1, f2⟩
    · rw [gt_st_ne ρ i j _ e] at hd'
      obtain ⟨b, h1, h2, h3⟩ := E.own j d' hj hd'
      have nb : b ≠ a := fun z => e (E.dis j i a hj hi (some_ne hd') (some_ne hd) (z ▸ h1) hs)
      obtain ⟨w, hw, _⟩ := h2.mut
      exact ⟨b, h1, h2.adv ra (((hst b _ hw).resolve_left nb).trans hw.symm), h3⟩
  · have lv : ∀ {k}, gt (st ρ i x) k ≠ none → gt ρ k ≠ none := fun {k} h => (gt_st_live' h).elim (fun z => z.1 ▸ some_ne hd) fun z => z.2
    exact E.dis j k b hj hk (lv h1) (lv h2) h3 h4
  · rcases E.fr b w h with q | q | q
    · exact .inl q
    · rcases hst b w q with e | q2
      · subst e
        rcases f2 with f2 | f2
        · exact .inl f2
        · rw [f2.1] at h; cases h
      · exact .inr (.inl q2)
    · exact .inr (.inr q)
  · have hb := E.lks b o w h
    have ne : b ≠ a := fun e => by
      subst e
      rw [hw0] at hb
      cases hb.1
      exact mw0
    exact ⟨(hst b _ hb.1).resolve_left ne, hb.2⟩
  · by_cases e : b = a
    · subst e; exact hm
    · obtain ⟨w, h1, h2⟩ := E.o0 b h
      exact ⟨w, rds e h1, h2⟩
  · have ne : b ≠ a := fun e => n (by subst e; exact ⟨i, hi, some_ne hd, hs⟩)
    exact (hst b _ h).resolve_left ne

/-! ### data that holds nothing that may be owned -/
mutual
def D.flat : D → Bool
  | .non => true
  | .bl _ => true
  | .int _ => true
  | .str _ => true
  | .tup xs => flatL xs
  | .fn _ => true
  | _ => false
def flatL : List D → Bool
  | [] => true
  | d :: ds => d.flat && flatL ds
end
mutual
theorem Rep.flat {T : Nat → Option Addr} {O O' : Addr → Prop} (oh : OH O' H) : ∀ (d : D) (v : V), Rep K T O H v d → d.flat = true → Rep K T O' H v d
  | .non, _, h, _ => by cases h; exact .non
  | .bl b, _, h, _ => by cases h; exact .bl b
  | .int i, _, h, _ => by cases h; exact .int i
  | .str s, _, h, _ => by
    cases h with
    | str _ hs => exact .str s hs
  | .tup ds, _, h, e => by
    cases h with
    | tup h1 h2 =>
      refine .tup ?_ (Reps.flat oh ds _ h2 e)
      rcases h1 with ⟨_, h1, h3⟩ | h1
      · refine .inl ⟨fun z => ?_, h1, h3⟩
        obtain ⟨u, q1, q2⟩ := oh _ z
        rcases h1 with h1 | ⟨o, h1⟩
        · exact not_mut_tup q1 q2 h1
        · rcases q1 with q1 | ⟨o2, q1⟩
          · rw [h1] at q1; cases q1; exact q2
          · rw [h1] at q1; cases q1; exact q2
      · exact .inr h1
  | .fn n, _, h, _ => by
    cases h with
    | fn h => exact .fn h
  | .lst _, _, _, e => nomatch e
  | .dk _, _, _, e => nomatch e
  | .dt _, _, _, e => nomatch e
  | .scr _, _, _, e => nomatch e
theorem Reps.flat {T : Nat → Option Addr} {O O' : Addr → Prop} (oh : OH O' H) : ∀ (ds : List D) (vs : List V), Reps K T O H vs ds → flatL ds = true → Reps K T O' H vs ds
  | [], _, h, _ => by cases h; exact .nil
  | d :: ds, _, h, e => by
    cases h with
    | cons h1 h2 =>
      have e' : (d.flat && flatL ds) = true := e
      rw [Bool.and_eq_true] at e'
      exact .cons (Rep.flat oh d _ h1 e'.1) (Reps.flat oh ds _ h2 e'.2)
end
def D.flatC : D → Bool
  | .lst ds => flatL ds
  | _ => false
theorem OwnAt.flat {T : Nat → Option Addr} {O O' : Addr → Prop} {a : Addr} (oh : OH O' H) : ∀ {d : D}, OwnAt K T O H a d → d.flatC = true → OwnAt K T O' H a d
  | .lst ds, h, e => let ⟨vs, h1, h2⟩ := h; ⟨vs, h1, h2.flat oh _ _ e⟩
  | .non, h, _ => h.elim
  | .bl _, h, _ => h.elim
  | .int _, h, _ => h.elim
  | .str _, h, _ => h.elim
  | .tup _, h, _ => h.elim
  | .fn _, h, _ => h.elim
  | .scr _, h, _ => h.elim
  | .dk _, _, e => nomatch e
  | .dt _, _, e => nomatch e
end
section
/-- the values of arguments; a place is read -/
def rdA (ρ : Env) : List DV → Option (List D)
  | [] => some []
  | .val d :: r => (rdA ρ r).map (d :: ·)
  | .plc i :: r => (gt ρ i).bind fun d => (rdA ρ r).map (d :: ·)
def noPl : List DV → Bool
  | [] => true
  | .val _ :: r => noPl r
  | .plc _ :: _ => false
def hasPl (i : Nat) : List DV → Bool
  | [] => false
  | .val _ :: r => hasPl i r
  | .plc j :: r => i == j || hasPl i r
def gd (b : Bool) : Res Unit := bif b then .ok () else .stuck
theorem gd_wp {α : Type} {b : Bool} {f : Unit → Res α} {X : Nat → D → Prop} {Q : α → Prop} (h : Wp (gd b >>= f) X Q) : b = true ∧ Wp (f ()) X Q := by
  cases b with
  | false => exact h.elim
  | true => exact ⟨rfl, h⟩
def shield (b : Bool) (r : Res (D × List D)) : Res (D × List D) := match r with
  | .ok o => bif b || o.1.flat then .ok o else .stuck
  | .err c p => bif b || p.flat then .err c p else .stuck
  | .stuck => .stuck
theorem shield_wp {α : Type} {b : Bool} {r : Res (D × List D)} {f : D × List D → Res α} {X : Nat → D → Prop} {Q : α → Prop} (h : Wp (shield b r >>= f) X Q) :
    Wp r (fun c p => (b || p.flat) = true ∧ X c p) (fun o => (b || o.1.flat) = true ∧ Wp (f o) X Q) := by
  cases r with
  | ok o =>
    have h' : Wp ((bif b || o.1.flat then .ok o else .stuck : Res (D × List D)) >>= f) X Q := h
    cases q : (b || o.1.flat) with
    | false => rw [q] at h'; exact h'.elim
    | true => rw [q] at h'; exact ⟨q, h'⟩
  | err c p =>
    have h' : Wp ((bif b || p.flat then .err c p else .stuck : Res (D × List D)) >>= f) X Q := h
    cases q : (b || p.flat) with
    | false => rw [q] at h'; exact h'.elim
    | true => rw [q] at h'; exact ⟨q, h'⟩
  | stuck => exact h.elim
def eCall (F : FS) (fs : Env → Res (List DV × Env)) : SE := fun ρ => fs ρ >>= fun r => ofOpt (rdA r.2 r.1) >>= fun ds => gd (decide (ds.length = F.np)) >>= fun _ => shield (noPl r.1) (F.m ds) >>= fun o => .ok (.val o.1, r.2)
def okLent (b : Bool) (ds : List D) : Option D := match ds with
  | d :: _ => bif b || d.flatC then some d else none
  | [] => none
def lentOf : List DV → Option (Nat × List DV)
  | .plc i :: r => some (i, r)
  | _ => none
def eCallC (F : FS) (fs : Env → Res (List DV × Env)) : SE := fun ρ => fs ρ >>= fun r => ofOpt (lentOf r.1) >>= fun l => ofOpt (gt r.2 l.1) >>= fun d0 => ofOpt (rdA r.2 l.2) >>= fun ds => gd (decide (ds.length + 1 = F.np)) >>= fun _ => gd (!hasPl l.1 l.2) >>= fun _ =>
  shield (noPl l.2) (F.m (d0 :: ds)) >>= fun o => ofOpt (okLent (noPl l.2) o.2) >>= fun d => .ok (.val o.1, st r.2 l.1 (some d))
variable {X : Cx} {S : ES} {W : WX} {C : EC} {σ : St} {H : Hp} {ρ : Env}
/-- the addresses of places among the arguments -/
def plA (σ : St) (xs : List DV) (a : Addr) : Prop := ∃ j, hasPl j xs = true ∧ σ[j]? = some (some (.ref a))
theorem noPl_has {xs : List DV} (h : noPl xs = true) (j : Nat) : hasPl j xs = false := by
  induction xs with
  | nil => rfl
  | cons x xs ih =>
    cases x with
    | val d => exact ih h
    | plc i => cases h
theorem args_ok {K : PySem.W.Frag} (E : ER K S C σ H ρ) {O' : Addr → Prop} {bor : List Nat} (hO : ∀ a, O' a → C.O S σ ρ a) : ∀ {k : Nat} {vs : List V} {xs : List DV} {ds : List D}, (∀ j, k ≤ j → j ∉ bor) → (∀ j a, hasPl j xs = true → σ[j]? = some (some (.ref a)) → ¬ O' a) → RVs K S C σ H ρ vs xs → rdA ρ xs = some ds → ArgsR K S.T O' H bor k vs ds
  | _, [], [], ds, _, _, _, e => by cases e; exact trivial
  | k, v :: vs, .val d :: xs, ds, hb, hn, h, e => by
    have e' : (rdA ρ xs).map (d :: ·) = some ds := e
    cases q : rdA ρ xs with
    | none => rw [q] at e'; cases e'
    | some ds' =>
      rw [q] at e'
      obtain rfl : d :: ds' = ds := by simpa using e'
      refine ⟨?_, args_ok (xs := xs) E hO (fun j hj => hb j (by omega)) (fun j a h2 => hn j a h2) h.2 q⟩
      rw [if_neg (hb k (Nat.le_refl _))]
      exact Rep.adv (sub_ra hO) d v h.1
  | k, v :: vs, .plc i :: xs, ds, hb, hn, h, e => by
    have e' : ((gt ρ i).bind fun d => (rdA ρ xs).map (d :: ·)) = some ds := e
    cases q0 : gt ρ i with
    | none => rw [q0] at e'; cases e'
    | some d =>
      rw [q0] at e'
      have e'' : (rdA ρ xs).map (d :: ·) = some ds := e'
      cases q : rdA ρ xs with
      | none => rw [q] at e''; cases e''
      | some ds' =>
        rw [q] at e''
        obtain rfl : d :: ds' = ds := by simpa using e''
        refine ⟨?_, args_ok E hO (fun j hj => hb j (by omega)) (fun j a h2 => hn j a (by show (j == i || hasPl j xs) = true; rw [h2, Bool.or_true])) h.2 q⟩
        rw [if_neg (hb k (Nat.le_refl _))]
        obtain ⟨hi, hs⟩ := h.1
        obtain ⟨a, h1, h2, _⟩ := E.own i d hi q0
        rw [hs] at h1
        obtain rfl : v = .ref a := by simpa using h1
        exact (h2.adv (sub_ra hO) rfl).rep (hn i a (by show (i == i || hasPl i xs) = true; simp) hs)
  | _, [], _ :: _, _, _, _, h, _ => h.elim
  | _, _ :: _, [], _, _, _, h, _ => h.elim
theorem RVs.length {K : PySem.W.Frag} : ∀ {vs : List V} {xs : List DV}, RVs K S C σ H ρ vs xs → vs.length = xs.length
  | [], [], _ => rfl
  | _ :: _, _ :: _, h => congrArg (· + 1) h.2.length
  | [], _ :: _, h => h.elim
  | _ :: _, [], h => h.elim
theorem rdA_length {ρ : Env} : ∀ {xs : List DV} {ds : List D}, rdA ρ xs = some ds → xs.length = ds.length
  | [], ds, e => by cases e; rfl
  | .val d :: xs, ds, e => by
    have e' : (rdA ρ xs).map (d :: ·) = some ds := e
    cases q : rdA ρ xs with
    | none => rw [q] at e'; cases e'
    | some ds' =>
      rw [q] at e'
      obtain rfl : d :: ds' = ds := by simpa using e'
      exact congrArg (· + 1) (rdA_length q)
  | .plc i :: xs, ds, e => by
    have e' : ((gt ρ i).bind fun d => (rdA ρ xs).map (d :: ·)) = some ds := e
    cases q0 : gt ρ i with
    | none => rw [q0] at e'; cases e'
    | some d =>
      rw [q0] at e'
      have e'' : (rdA ρ xs).map (d :: ·) = some ds := e'
      cases q : rdA ρ xs with
      | none => rw [q] at e''; cases e''
      | some ds' =>
        rw [q] at e''
        obtain rfl : d :: ds' = ds := by simpa using e''
        exact congrArg (· + 1) (rdA_length q)
theorem Pay.lift {K : PySem.W.Frag} {S S' : ES} {O O' : Addr → Prop} {c : Nat} {d : Option Addr} {p : D} (hf : S'.fld = S.fld) (hT : S'.T = S.T) (oh : OH O' H) (h : Pay K S O H c d p) (hp : p.flat = true ∨ (∀ a, O' a → O a)) : Pay K S' O' H c d p := fun f e => by
  rw [hf] at e
  obtain ⟨dx, v, e1, e2, rp⟩ := h f e
  refine ⟨dx, v, e1, e2, ?_⟩
  rw [hT]
  rcases hp with hp | hp
  · exact rp.flat oh _ _ hp
  · exact rp.adv (sub_ra hp)
/-- a call: what is promised, at these arguments -/
theorem call0 {K : PySem.W.Frag} {S0 : ES} {F : FS} {vs : List V} {xs : List DV} {ds : List D} {Q : VK} {W : WX} (hS : S0.T = S.T ∧ S0.cls = S.cls ∧ S0.fld = S.fld) (hb : F.bor = []) (E : ER K S C σ H ρ) (rv : RVs K S C σ H ρ vs xs) (rd : rdA ρ xs = some ds) (hl : ds.length = F.np)
    (w : Wp (F.m ds) (fun c p => (noPl xs || p.flat) = true ∧ XOk K S W C c p) (fun o => (noPl xs || o.1.flat) = true ∧ ∀ v H', ER K S C σ H' ρ → Adv (C.mo S σ ρ) H (C.mo S σ ρ) H' → Rep K S.T (C.O S σ ρ) H' v o.1 → Q v H')) :
    spF K S0 F vs H Q (WE W σ) := by
  let O' : Addr → Prop := fun a => C.O S σ ρ a ∧ ¬ plA σ xs a
  have hO : ∀ a, O' a → C.O S σ ρ a := fun a h => h.1
  have oh : OH O' H := fun a h => E.omut a h.1
  have ex : ∀ {H'}, FrB F.bor vs H H' → Ex H H' := fun {H'} f a u h => (f.st a u h).resolve_left fun ⟨k, hk, _⟩ => by rw [hb] at hk; cases hk
  have back : ∀ {p : D}, (noPl xs || p.flat) = true → p.flat = true ∨ (∀ a, C.O S σ ρ a → O' a) := fun {p} h => by
    rw [Bool.or_eq_true] at h
    exact h.symm.imp id fun h a oa => ⟨oa, fun ⟨j, hj, _⟩ => by rw [noPl_has h j] at hj; cases hj⟩
  refine ⟨O', ds, (rv.length.trans (rdA_length rd)).trans hl, oh, ?_, ?_, ?_⟩
  · rw [hb, hS.1]
    exact args_ok E hO (fun _ _ h => nomatch h) (fun j a h1 h2 h3 => h3.2 ⟨j, h1, h2⟩) rv rd
  · rw [hb]
    exact fun k l a h => nomatch h
  · refine w.mono (fun c p hx d H' fr oh' pay => ?_) fun o _ hq v H' fr oh' rp _ => ?_
    · have E1 := E.ext (ex fr)
      show W (S0.cls c) d σ H'
      rw [hS.2.1]
      exact hx.2 d σ H' ρ E1 (pay.lift hS.2.2.symm hS.1.symm E1.omut (back hx.1))
    · have E1 := E.ext (ex fr)
      rw [hS.1] at rp
      refine hq.2 v H' E1 (ex fr).adv ?_
      rcases back hq.1 with h | h
      · exact rp.flat E1.omut _ _ h
      · exact rp.adv (sub_ra h)
theorem callC {K : PySem.W.Frag} {S0 : ES} {F : FS} {v0 : V} {i : Nat} {d0 : D} {vs : List V} {xs : List DV} {ds : List D} {Q : VK} {W : WX} (hS : S0.T = S.T ∧ S0.cls = S.cls ∧ S0.fld = S.fld) (hb : F.bor = [0]) (E : ER K S C σ H ρ) (rv0 : RV K S C σ H ρ v0 (.plc i)) (hd : gt ρ i = some d0) (hp : hasPl i xs = false)
    (rv : RVs K S C σ H ρ vs xs) (rd : rdA ρ xs = some ds) (hl : ds.length + 1 = F.np)
    (w : Wp (F.m (d0 :: ds)) (fun c p => (noPl xs || p.flat) = true ∧ XOk K S W C c p) (fun o => (noPl xs || o.1.flat) = true ∧ ∃ d, okLent (noPl xs) o.2 = some d ∧ ∀ v H', ER K S C σ H' (st ρ i (some d)) → Adv (C.mo S σ ρ) H (C.mo S σ (st ρ i (some d))) H' → Rep K S.T (C.O S σ (st ρ i (some d))) H' v o.1 → Q v H')) :
    spF K S0 F (v0 :: vs) H Q (WE W σ) := by
  obtain ⟨hi, hs⟩ := rv0
  obtain ⟨a, h1, how, _⟩ := E.own i d0 hi hd
  rw [hs] at h1
  obtain rfl : v0 = .ref a := by simpa using h1
  have plo : ∀ {j b}, hasPl j xs = true → σ[j]? = some (some (.ref b)) → j ∈ S.ow → gt ρ j ≠ none → b ≠ a := fun {j b} g1 g2 g3 g4 e => by
    subst e
    have := E.dis j i b g3 hi g4 (some_ne hd) g2 hs
    subst this
    rw [hp] at g1; cases g1
  -- the places among the arguments are live and owned
  have lv : ∀ {vs : List V} {xs : List DV} {ds : List D}, RVs K S C σ H ρ vs xs → rdA ρ xs = some ds → ∀ j, hasPl j xs = true → j ∈ S.ow ∧ gt ρ j ≠ none := by
    intro vs xs
    induction xs generalizing vs with
    | nil => intro ds _ _ j h; cases h
    | cons x xs ih =>
      intro ds h e j hj
      cases vs with
      | nil => exact h.elim
      | cons v vs =>
        cases x with
        | val d =>
          have e' : (rdA ρ xs).map (d :: ·) = some ds := e
          cases q : rdA ρ xs with
          | none => rw [q] at e'; cases e'
          | some ds' => exact ih h.2 q j hj
        | plc i =>
          have e' : ((gt ρ i).bind fun d => (rdA ρ xs).map (d :: ·)) = some ds := e
          cases q0 : gt ρ i with
          | none => rw [q0] at e'; cases e'
          | some d =>
            rw [q0] at e'
            have e'' : (rdA ρ xs).map (d :: ·) = some ds := e'
            cases q : rdA ρ xs with
            | none => rw [q] at e''; cases e''
            | some ds' =>
              have hj' : (j == i || hasPl j xs) = true := hj
              rw [Bool.or_eq_true, beq_iff_eq] at hj'
              rcases hj' with rfl | hj'
              · exact ⟨h.1.1, some_ne q0⟩
              · exact ih h.2 q j hj'
  let O' : Addr → Prop := fun b => C.O S σ ρ b ∧ ¬ plA σ xs b
  have hO : ∀ b, O' b → C.O S σ ρ b := fun b h => h.1
  have oh : OH O' H := fun b h => E.omut b h.1
  have oa : O' a := ⟨.inr ⟨i, hi, some_ne hd, hs⟩, fun ⟨j, h1, h2⟩ => plo h1 h2 (lv rv rd j h1).1 (lv rv rd j h1).2 rfl⟩
  have bA : ∀ b, borA F.bor (.ref a :: vs) b → b = a := fun b ⟨k, hk, e⟩ => by
    rw [hb] at hk
    obtain rfl : k = 0 := by simpa using hk
    have e' : some (V.ref a) = some (V.ref b) := e
    cases e'
    rfl
  have stn : ∀ {H'}, FrB F.bor (.ref a :: vs) H H' → ∀ b u, H b = some u → b = a ∨ H' b = some u := fun {H'} f b u h => (f.st b u h).imp (bA b) id
  have back : ∀ {p : D} {x : Option D}, (noPl xs || p.flat) = true → p.flat = true ∨ (∀ b, C.O S σ (st ρ i x) b → O' b) := fun {p x} h => by
    rw [Bool.or_eq_true] at h
    exact h.symm.imp id fun h b oa => ⟨oa.imp id (M_chg hd), fun ⟨j, hj, _⟩ => by rw [noPl_has h j] at hj; cases hj⟩
  refine ⟨O', d0 :: ds, by rw [List.length_cons, rv.length.trans (rdA_length rd)]; exact hl, oh, ?_, ?_, ?_⟩
  · rw [hb, hS.1]
    refine ⟨?_, args_ok E hO (fun j hj h => by simp at h; omega) (fun j a h1 h2 h3 => h3.2 ⟨j, h1, h2⟩) rv rd⟩
    rw [if_pos (by simp)]
    exact ⟨a, rfl, oa, how.adv (sub_ra hO) rfl⟩
  · rw [hb]
    intro k l b h1 h2 _ _
    simp at h1 h2
    rw [h1, h2]
  · refine w.mono (fun c p hx d H' fr oh' pay => ?_) fun o _ hq v H' fr oh' rp bk => ?_
    · have E1 := (E.chg (x := none) hi hd hs (stn fr) fr.dm (oh' a oa) (fun d h => nomatch h)).1
      show W (S0.cls c) d σ H'
      rw [hS.2.1]
      exact hx.2 d σ H' _ E1 (pay.lift hS.2.2.symm hS.1.symm E1.omut (back hx.1))
    · obtain ⟨fl, d, ok, hq⟩ := hq
      obtain ⟨d', h1, h2⟩ := bk 0 a (by rw [hb]; simp) rfl
      rw [hS.1] at h2 rp
      have hd' : d' = d ∧ (noPl xs || d.flatC) = true := by
        unfold okLent at ok
        cases q : o.2 with
        | nil => rw [q] at ok; cases ok
        | cons e r =>
          rw [q] at ok h1
          have h1 : some e = some d' := h1
          cases h1
          have ok : (bif noPl xs || d'.flatC then some d' else none) = some d := ok
          cases z : (noPl xs || d'.flatC) with
          | false => rw [z] at ok; cases ok
          | true => rw [z] at ok; cases ok; exact ⟨rfl, z⟩
      obtain ⟨rfl, fl2⟩ := hd'
      -- what is owned behind the call
      have oh2 : OH (C.O S σ (st ρ i (some d'))) H' := fun b z => by
        have z' : C.O S σ ρ b := z.imp id (M_chg hd)
        by_cases e : b = a
        · subst e; exact oh' b oa
        · obtain ⟨u, q1, q2⟩ := E.omut b z'
          refine ⟨u, ?_, q2⟩
          rcases q1 with q1 | ⟨ob, q1⟩
          · exact .inl ((stn fr b _ q1).resolve_left e)
          · exact .inr ⟨ob, (stn fr b _ q1).resolve_left e⟩
      have how2 : OwnAt K S.T (C.O S σ (st ρ i (some d'))) H' a d' := by
        rw [Bool.or_eq_true] at fl2
        rcases fl2 with h | h
        · exact h2.adv (sub_ra fun b oa => ⟨oa.imp id (M_chg hd), fun ⟨j, hj, _⟩ => by rw [noPl_has h j] at hj; cases hj⟩) rfl
        · exact h2.flat oh2 h
      have E1 := E.chg (x := some d') hi hd hs (stn fr) fr.dm (oh' a oa) fun d h => by cases h; exact how2
      refine hq v H' E1.1 E1.2 ?_
      rcases back (x := some d') fl with h | h
      · exact rp.flat E1.1.omut _ _ h
      · exact rp.adv (sub_ra h)
/-- a def that may be called by its name -/
structure CalF (P : Program) (w : World) (K : PySem.W.Frag) (mg : Str → Option Value) (base : Heap) (S0 : ES) (k : Nat) (x : Str) (F : FS) : Prop where
  ex : ∃ (f : Addr) (fd : FuncData) (ps : List Str), FnOk P w K mg base (L2.CX P w) k f fd ps (spF K S0 F) ∧ mg x = some (.ref f) ∧ PySem.W.keepIn K (.ref f) = true ∧ Binds K fd ps []
variable {S0 : ES} {F : FS} {x : Str} {k j : Nat} {p pos : Pos} {e : Expr} {es : List Expr} {fs : Env → Res (List DV × Env)}
theorem ev_call (tk : Takes X W) (c : CalF X.prog X.w X.K X.mg X.base S0 k x F) (hS : S0.T = S.T ∧ S0.cls = S.cls ∧ S0.fld = S.fld) (hb : F.bor = []) (hr : Room j X.A) (hk : k ≤ j) (hg : Gl X x) (ha : EvA X S W (e :: es) fs)
    (hdb : (x == ("__debug__" : Str)) = false := by decide) (he : starEach (e :: es) X.env = (false, eval e X.env) :: starEach es X.env := by rfl) (hpl : (backTo pos (starEach es X.env)).any (·.1) = false := by rfl) :
    EvE X S W (.Call (.Name x p) (e :: es) [] pos) (eCall F fs) := by
  obtain ⟨f, fd, ps, G, hm, kp, b⟩ := c.ex
  obtain ⟨t, pt, q⟩ := ha
  refine ⟨_, pe_callS G (hr.mono hk) hg hm kp b (fun σ => passAt tk σ) pt hdb he hpl, fun C σ H ρ Q E w => ?_⟩
  refine q C σ H ρ _ E ((Wp.bind w).mono (fun _ _ h => h) fun r1 _ w1 vs H1 E1 A1 R1 => ?_)
  obtain ⟨ds, e1, w2⟩ := opt_wp w1
  obtain ⟨e2, w3⟩ := gd_wp w2
  exact call0 hS hb E1 R1 e1 (of_decide_eq_true e2) ((shield_wp w3).mono (fun c p h => h) fun o _ h => ⟨h.1, fun v H' E2 A2 rp => h.2 v H' E2 (A1.trans A2) rp⟩)
theorem ev_callC (tk : Takes X W) (c : CalF X.prog X.w X.K X.mg X.base S0 k x F) (hS : S0.T = S.T ∧ S0.cls = S.cls ∧ S0.fld = S.fld) (hb : F.bor = [0]) (hr : Room j X.A) (hk : k ≤ j) (hg : Gl X x) (ha : EvA X S W (e :: es) fs)
    (hdb : (x == ("__debug__" : Str)) = false := by decide) (he : starEach (e :: es) X.env = (false, eval e X.env) :: starEach es X.env := by rfl) (hpl : (backTo pos (starEach es X.env)).any (·.1) = false := by rfl) :
    EvE X S W (.Call (.Name x p) (e :: es) [] pos) (eCallC F fs) := by
  obtain ⟨f, fd, ps, G, hm, kp, b⟩ := c.ex
  obtain ⟨t, pt, q⟩ := ha
  refine ⟨_, pe_callS G (hr.mono hk) hg hm kp b (fun σ => passAt tk σ) pt hdb he hpl, fun C σ H ρ Q E w => ?_⟩
  refine q C σ H ρ _ E ((Wp.bind w).mono (fun _ _ h => h) fun r1 _ w1 vs H1 E1 A1 R1 => ?_)
  obtain ⟨⟨i, xs⟩, e0, w2⟩ := opt_wp w1
  obtain ⟨d0, e1, w3⟩ := opt_wp w2
  obtain ⟨ds, e2, w4⟩ := opt_wp w3
  obtain ⟨e3, w5⟩ := gd_wp w4
  obtain ⟨e4, w6⟩ := gd_wp w5
  have e0' : r1.1 = .plc i :: xs := by
    unfold lentOf at e0
    split at e0
    · rename_i h
      cases e0
      exact h
    · cases e0
  rw [e0'] at R1
  cases vs with
  | nil => exact R1.elim
  | cons v0 vs =>
    refine callC hS hb E1 R1.1 e1 (by simpa using e4) R1.2 e2 (of_decide_eq_true e3) ((shield_wp w6).mono (fun c p h => h) fun o _ h => ⟨h.1, ?_⟩)
    obtain ⟨d, e5, w7⟩ := opt_wp h.2
    exact ⟨d, e5, fun v H' E2 A2 rp => w7 v H' E2 (A1.trans A2) rp⟩
end
end EV

namespace EV
open PySem PySem.Spec L2 SX
open PyProof.Rows hiding St

/-! ### tuple * int, the small cases -/
theorem tuple_mul1 (l : Addr) (items : Array Value) (n : Nat) (dd : Option Addr) (sl : Array (Option Value)) (x : Int) (u : Tok) (c0 : (decide (x < -(2 ^ 63)) || decide (x ≥ 2 ^ 63)) = false) (c1 : (items.isEmpty || x == 1) = true) :
    Meets (Builtin.«tuple.__mul__» ⟨[.ref l, .int x u], []⟩) (fun _ R s => s.heap.get? l = some { cls := .type "tuple", dict := dd, data := .seq items n, slots := sl } ∧ R (.ok (.ret (Value.ref l))) s) :=
  .of_wp fun prog w A R s h => by
    obtain ⟨hp, g, d, tk, os⟩ := s
    obtain ⟨hl, h⟩ := h
    have f1 := AutoSeq1.idx_int
    wp_walk using wpAny_loadPart' hl
    repeat (first
      | (refine wpAny_ite_false (decide_eq_false (by rw [c0]; exact Bool.false_ne_true)) ?_; wp_walk using wpAny_loadPart' hl)
      | (refine wpAny_ite_true (decide_eq_true c1) ?_; wp_walk using wpAny_loadPart' hl))
    exact ⟨_, rfl, h⟩
theorem tuple_mul0 (l : Addr) (items : Array Value) (n : Nat) (dd : Option Addr) (sl : Array (Option Value)) (x : Int) (u : Tok) (c0 : (decide (x < -(2 ^ 63)) || decide (x ≥ 2 ^ 63)) = false) (c1 : (items.isEmpty || x == 1) = false) (c2 : (decide (x ≤ 0) || items.isEmpty) = true) :
    Meets (Builtin.«tuple.__mul__» ⟨[.ref l, .int x u], []⟩) (fun _ R s => s.heap.get? l = some { cls := .type "tuple", dict := dd, data := .seq items n, slots := sl } ∧
      R (.ok (.ret (Value.ref s.heap.objs.size))) { s with heap := s.heap.push { cls := Value.type "tuple", data := Data.seq #[] }, toks := s.toks }) :=
  .of_wp fun prog w A R s h => by
    obtain ⟨hp, g, d, tk, os⟩ := s
    obtain ⟨hl, h⟩ := h
    have f1 := AutoSeq1.idx_int
    wp_walk using wpAny_loadPart' hl
    repeat (first
      | (refine wpAny_ite_false (decide_eq_false (by rw [c0]; exact Bool.false_ne_true)) ?_; wp_walk using wpAny_loadPart' hl)
      | (refine wpAny_ite_false (decide_eq_false (by rw [c1]; exact Bool.false_ne_true)) ?_; wp_walk using wpAny_loadPart' hl)
      | (refine wpAny_ite_true (decide_eq_true c2) ?_; wp_walk using wpAny_loadPart' hl))
    exact ⟨_, rfl, h⟩
section
variable {X : Cx} {S : ES} {W : WX} {pos : Pos}
def rRep1 (K : PySem.W.Frag) : R2 := fun x y H Q => ∃ l k xs, x = .ref l ∧ y = .int k ∧ SqT K H l xs ∧ (xs = [] ∨ k = 1) ∧ -1000 ≤ k ∧ k ≤ 1000 ∧ Q (.ref l) H
theorem op_rep1 : OpR X (binaryOp .Mult) (rRep1 X.K) := by
  intro pins s σ H x y v u Q I rx ry h
  obtain ⟨l, k, xs, rfl, rfl, hT, hc, h1, h2, q⟩ := h
  cases rx
  obtain ⟨t, rfl⟩ := ry
  obtain ⟨its, r, ⟨⟨cls, dd, data, sl⟩, ho, hc2, n, hd⟩, hs⟩ := I.tuple hT
  simp only at hc2 hd
  subst hc2 hd
  have c0 : (decide (k < -(2 ^ 63)) || decide (k ≥ 2 ^ 63)) = false := by
    rw [decide_eq_false (by omega), decide_eq_false (by omega)] <;> rfl
  have c1 : (its.toArray.isEmpty || k == 1) = true := by
    rcases hc with rfl | rfl
    · cases r; rfl
    · rw [Bool.or_eq_true]; exact .inr rfl
  refine wpAny_binaryOp_repeat_ref (T := "tuple") (U := "int") (by decide) ⟨_, ho, rfl⟩ (fun s' => typeIs_int s' k t) noFill_tuple_mul F.fills_int_mul F.slot_int_rmul repeat_tuple F.slot_int_index.lookup
    (call_meets F.slot_int_rmul (typeIs_int s k t) F.entry_int_rmul (F.args_int_rmul_2 _ _) (int_rmul_tuple k t l its.toArray n dd sl)
      ⟨ho, rfl, ⟨_, ho, rfl⟩, call_meets F.slot_tuple_mul ⟨_, ho, rfl⟩ F.entry_tuple_mul (F.args_tuple_mul_2 _ _) (tuple_mul1 l its.toArray n dd sl k t c0 c1) ⟨ho, ?_⟩⟩)
  exact ⟨.ref l, H, I, rfl, q⟩
def rRep0 (K : PySem.W.Frag) : R2 := fun x y H Q => ∃ l k xs, x = .ref l ∧ y = .int k ∧ SqT K H l xs ∧ xs ≠ [] ∧ -1000 ≤ k ∧ k ≤ 0 ∧ EVN.NewT H Q []
theorem op_rep0 : OpR X (binaryOp .Mult) (rRep0 X.K) := by
  intro pins s σ H x y v u Q I rx ry h
  obtain ⟨l, k, xs, rfl, rfl, hT, hne, h1, h2, q⟩ := h
  cases rx
  obtain ⟨t, rfl⟩ := ry
  obtain ⟨its, r, ⟨⟨cls, dd, data, sl⟩, ho, hc2, n, hd⟩, hs⟩ := I.tuple hT
  simp only at hc2 hd
  subst hc2 hd
  have c0 : (decide (k < -(2 ^ 63)) || decide (k ≥ 2 ^ 63)) = false := by
    rw [decide_eq_false (by omega), decide_eq_false (by omega)] <;> rfl
  have hi : its.toArray.isEmpty = false := by
    cases r with
    | nil => exact absurd rfl hne
    | cons a b => rfl
  have c1 : (its.toArray.isEmpty || k == 1) = false := by
    rw [hi, Bool.false_or]
    exact beq_eq_false_iff_ne.mpr (by omega)
  have c2 : (decide (k ≤ 0) || its.toArray.isEmpty) = true := by
    rw [decide_eq_true h2]; rfl
  refine wpAny_binaryOp_repeat_ref (T := "tuple") (U := "int") (by decide) ⟨_, ho, rfl⟩ (fun s' => typeIs_int s' k t) noFill_tuple_mul F.fills_int_mul F.slot_int_rmul repeat_tuple F.slot_int_index.lookup
    (call_meets F.slot_int_rmul (typeIs_int s k t) F.entry_int_rmul (F.args_int_rmul_2 _ _) (int_rmul_tuple k t l its.toArray n dd sl)
      ⟨ho, rfl, ⟨_, ho, rfl⟩, call_meets F.slot_tuple_mul ⟨_, ho, rfl⟩ F.entry_tuple_mul (F.args_tuple_mul_2 _ _) (tuple_mul0 l its.toArray n dd sl k t c0 c1 c2) ⟨ho, ?_⟩⟩)
  exact EVN.land I (Nat.zero_le _) .nil q
def repOk (k : Int) (n : Nat) : Bool := decide (-1000 ≤ k) && decide (k ≤ 1000) && decide (n ≤ 1000)
theorem repOk_of {k : Int} {n : Nat} (h : repOk k n = true) : -1000 ≤ k ∧ k ≤ 1000 ∧ n ≤ 1000 := by
  unfold repOk at h
  rw [Bool.and_eq_true, Bool.and_eq_true, decide_eq_true_eq, decide_eq_true_eq, decide_eq_true_eq] at h
  exact ⟨h.1.1, h.1.2, h.2⟩
def rpt {α : Type} (k : Int) (xs : List α) : List α := (List.replicate k.toNat xs).flatten
theorem rpt_nil {α : Type} (k : Int) : rpt k ([] : List α) = [] := by simp [rpt]
theorem rpt_neg {α : Type} {k : Int} (h : k ≤ 0) (xs : List α) : rpt k xs = [] := by
  have : k.toNat = 0 := by omega
  simp [rpt, this]
theorem rpt_one {α : Type} (xs : List α) : rpt 1 xs = xs := by simp [rpt]
def onTI (f : List D → Int → Option D) : D → D → Option D
  | .tup i, .int j => f i j
  | _, _ => none
theorem onTI_some {f : List D → Int → Option D} {a b d : D} (h : onTI f a b = some d) : ∃ i j, a = .tup i ∧ b = .int j ∧ f i j = some d := by
  cases a <;> cases b <;> first | exact ⟨_, _, rfl, rfl, h⟩ | cases h
def onLI (f : List D → Int → Option D) : D → D → Option D
  | .lst i, .int j => f i j
  | _, _ => none
theorem onLI_some {f : List D → Int → Option D} {a b d : D} (h : onLI f a b = some d) : ∃ i j, a = .lst i ∧ b = .int j ∧ f i j = some d := by
  cases a <;> cases b <;> first | exact ⟨_, _, rfl, rfl, h⟩ | cases h
def onSI (f : List Nat → Int → Option D) : D → D → Option D
  | .str i, .int j => f i j
  | _, _ => none
theorem onSI_some {f : List Nat → Int → Option D} {a b d : D} (h : onSI f a b = some d) : ∃ i j, a = .str i ∧ b = .int j ∧ f i j = some d := by
  cases a <;> cases b <;> first | exact ⟨_, _, rfl, rfl, h⟩ | cases h
theorem Reps.rep {K : PySem.W.Frag} {T : Nat → Option Addr} {O : Addr → Prop} {H : Hp} {vs : List V} {ds : List D} (h : Reps K T O H vs ds) : ∀ n : Nat, Reps K T O H (List.replicate n vs).flatten (List.replicate n ds).flatten
  | 0 => .nil
  | n + 1 => by
    rw [List.replicate_succ, List.replicate_succ, List.flatten_cons, List.flatten_cons]
    exact h.append (h.rep n)
theorem Reps.rpt {K : PySem.W.Frag} {T : Nat → Option Addr} {O : Addr → Prop} {H : Hp} {vs : List V} {ds : List D} (h : Reps K T O H vs ds) (k : Int) : Reps K T O H (EV.rpt k vs) (EV.rpt k ds) := h.rep k.toNat
def repT : List D → Int → Option D := fun xs k => if repOk k xs.length = true then some (.tup (rpt k xs)) else none
theorem od_repT : OpD X (binaryOp .Mult) (onTI repT) := by
  refine ⟨_, (op_rep1 (X := X)).or ((op_rep0 (X := X)).or EVN.op_repN), fun T O H v1 v2 d1 d2 d Q oh r1 r2 e w => ?_⟩
  obtain ⟨xs, k, rfl, rfl, e1⟩ := onTI_some e
  unfold repT at e1
  split at e1
  · rename_i hk
    cases e1
    obtain ⟨h1, h2, h3⟩ := repOk_of hk
    obtain ⟨a, vs, rfl, ht, hr⟩ := r1.tup
    obtain rfl := r2.int
    have hl := hr.length
    by_cases c1 : vs = [] ∨ k = 1
    · refine .inl ⟨a, k, vs, rfl, rfl, ht.sq, c1, h1, h2, w _ H (Ex.refl H) ?_⟩
      rcases c1 with c1 | c1
      · subst c1
        cases hr
        rw [rpt_nil]
        exact .tup ht .nil
      · subst c1
        rw [rpt_one]
        exact .tup ht hr
    · have cn : vs ≠ [] := fun z => c1 (.inl z)
      have ck : k ≠ 1 := fun z => c1 (.inr z)
      by_cases c0 : k ≤ 0
      · refine .inr (.inl ⟨a, k, vs, rfl, rfl, ht.sq, cn, h1, c0, fun p o hp hd => w _ _ (Ex.new hp) ?_⟩)
        rw [rpt_neg c0]
        exact .tup (.fresh (oh.fresh hp) upd_same hd) .nil
      · refine .inr (.inr ⟨a, k, vs, rfl, rfl, ht.sq, cn, by omega, h2, by omega, fun p o hp hd => w _ _ (Ex.new hp) ?_⟩)
        exact .tup (.fresh (oh.fresh hp) upd_same hd) ((hr.rpt k).adv (Ex.new hp).ra)
  · cases e1
/-- a text times an int -/
theorem foldl_repS (l : List Nat) : ∀ (m : Nat) (acc : List Nat), (List.replicate m (SX.S l).cps).foldl (· ++ ·) acc.toArray = (acc ++ (List.replicate m l).flatten).toArray
  | 0, acc => by simp
  | m + 1, acc => by
    rw [List.replicate_succ, List.foldl_cons, List.replicate_succ, List.flatten_cons]
    have e : acc.toArray ++ (SX.S l).cps = (acc ++ l).toArray := by simp [SX.S]
    rw [e, foldl_repS l m (acc ++ l), List.append_assoc]
theorem rpt_len {α : Type} (k : Int) (xs : List α) : (rpt k xs).length = k.toNat * xs.length := by
  unfold rpt
  rw [List.length_flatten]
  simp
theorem op_repS : OpR X (binaryOp .Mult) (fun x y H Q => ∃ s k, x = .str (SX.S s) ∧ y = .int k ∧ repOk k s.length = true ∧ Q (.str (SX.S (rpt k s))) H) := by
  intro pins s σ H x y v u Q I rx ry h
  obtain ⟨z, k, rfl, rfl, hk, q⟩ := h
  obtain ⟨h1, h2, h3⟩ := repOk_of hk
  obtain ⟨t, rfl⟩ := rx
  obtain ⟨t2, rfl⟩ := ry
  have c0 : (decide (k < -(2 ^ 63 : Int)) || decide (k ≥ 2 ^ 63)) = false := by
    rw [decide_eq_false (by omega), decide_eq_false (by omega)] <;> rfl
  have len : (SX.S z).length = z.length := S_len z
  have sm : k.toNat * z.length ≤ 1000 * 1000 := Nat.mul_le_mul (by omega) h3
  refine P.mul_str c0 (fun a b => ?_) (fun a b => ?_) ?_
  · have : (1000 : Int) ≤ (2 ^ 63 - 1) / k := (Int.le_ediv_iff_mul_le (by omega)).mpr (by omega)
    rw [len]
    omega
  · unfold Builtin.Str.tooLong
    rw [len, sizeLine_eq, Nat.mul_comm]
    exact decide_eq_false (by omega)
  · split
    · rename_i a
      rw [rpt_neg (by omega)] at q
      exact ⟨by decide, .str Str.empty, H, I.tok _, ⟨_, rfl⟩, q⟩
    · split
      · rename_i a b
        have e : rpt k z = z := by
          rw [Bool.or_eq_true, beq_iff_eq, beq_iff_eq] at b
          rcases b with rfl | b
          · exact rpt_one z
          · rw [len] at b
            obtain rfl := List.eq_nil_of_length_eq_zero b
            exact rpt_nil k
        rw [e] at q
        exact ⟨.str (SX.S z), H, I, ⟨t, rfl⟩, q⟩
      · have e : (List.replicate k.toNat (SX.S z).cps).foldl (· ++ ·) #[] = (SX.S (rpt k z)).cps := by
          have := foldl_repS z k.toNat []
          rw [List.nil_append] at this
          exact this
        rw [e]
        refine ⟨?_, .str (SX.S (rpt k z)), H, I.tok _, ⟨_, rfl⟩, q⟩
        show (SX.S (rpt k z)).length ≤ sizeLine
        rw [S_len, rpt_len, sizeLine_eq]
        omega
def repS : List Nat → Int → Option D := fun xs k => if repOk k xs.length = true then some (.str (rpt k xs)) else none
theorem rpt_mem {α : Type} {k : Int} {xs : List α} {c : α} (h : c ∈ rpt k xs) : c ∈ xs := by
  unfold rpt at h
  obtain ⟨l, h1, h2⟩ := List.mem_flatten.mp h
  rw [List.eq_of_mem_replicate h1] at h2
  exact h2
theorem od_repS : OpD X (binaryOp .Mult) (onSI repS) := by
  refine ⟨_, op_repS, fun T O H v1 v2 d1 d2 d Q oh r1 r2 e w => ?_⟩
  obtain ⟨xs, k, rfl, rfl, e1⟩ := onSI_some e
  unfold repS at e1
  split at e1
  · rename_i hk
    cases e1
    exact ⟨xs, k, r1.str, r2.int, hk, w _ H (Ex.refl H) (.str _ fun c hc => r1.okS c (rpt_mem hc))⟩
  · cases e1
/-- a list times an int: a new list -/
def rRepL : R2 := fun x y H Q => ∃ l k xs, x = .ref l ∧ y = .int k ∧ Rd H l (.lst xs) ∧ repOk k xs.length = true ∧ ∀ p, H p = none → Q (.ref p) (upd H p (.lst (rpt k xs)))
theorem op_repL : OpR X (binaryOp .Mult) rRepL := by
  intro pins s σ H x y v u Q I rx ry h
  obtain ⟨l, k, xs, rfl, rfl, hH, hk, q⟩ := h
  obtain ⟨h1, h2, h3⟩ := repOk_of hk
  cases rx
  obtain ⟨t, rfl⟩ := ry
  obtain ⟨z, its, n, r, hl, e⟩ := rd_lst hH I.hok
  have sm : xs.length * k.toNat ≤ 1000 * 1000 := Nat.mul_le_mul h3 (by omega)
  have hz : xs.length * k.toNat ≤ sizeLine := by rw [sizeLine_eq]; omega
  have hlen : its.toArray.size * k.toNat ≤ sizeLine := by rw [List.size_toArray, ← hl]; exact hz
  have hcap : ¬ its.toArray.size * k.toNat > (2 ^ 63 - 1) / 8 := by
    have : (sizeLine : Nat) ≤ (2 ^ 63 - 1) / 8 := by decide
    omega
  have hfit : ¬ (!Builtin.List.listFitsIndex k) = true := by
    rw [fitsIndex_both (by omega) (by omega)]
    exact Bool.false_ne_true
  have hlong : ¬ Builtin.List.listTooLong (its.toArray.size * k.toNat) = true := by
    rw [notLongL hlen]
    exact Bool.false_ne_true
  have hnew : List.foldl (fun x1 x2 => x1 ++ x2) #[] (List.replicate (if its.toArray.isEmpty = true then 0 else k.toNat) its.toArray) = (List.replicate k.toNat its).flatten.toArray := by
    have f0 : ∀ m : Nat, List.foldl (fun x1 x2 => x1 ++ x2) #[] (List.replicate m its.toArray) = (List.replicate m its).flatten.toArray := fun m => by
      have := foldl_rep its m []
      rw [List.nil_append] at this
      exact this
    rw [f0]
    cases its with
    | nil => simp
    | cons a r' => rw [if_neg (by simp)]
  refine wpAny_binaryOp_repeat_ref (T := "list") (U := "int") (by decide) ⟨_, e, rfl⟩ (fun s' => typeIs_int s' k t) noFill_list_mul F.fills_int_mul F.slot_int_rmul repeat_list F.slot_int_index.lookup
    (call_meets F.slot_int_rmul (typeIs_int s k t) F.entry_int_rmul (F.args_int_rmul_2 _ _) (int___rmul___int_list k t l its.toArray n)
      ⟨e, rfl, ⟨_, e, rfl⟩, call_meets F.slot_list_mul ⟨_, e, rfl⟩ F.entry_list_mul (F.args_list_mul_2 _ _) (AutoListH.list___mul___list_int_3 l its.toArray n k t hfit hcap hlong) ⟨e, ?_⟩⟩)
  rw [hnew]
  exact ⟨.ref _, _, I.lnew (t' := s.toks) (r.rep k.toNat) (by rw [PyProof.Rows.lm_len_rep_flat, Nat.mul_comm]; exact hz), rfl, q _ I.fresh⟩
def repL : List D → Int → Option D := fun xs k => if repOk k xs.length = true then some (.lst (rpt k xs)) else none
theorem od_repL : OpD X (binaryOp .Mult) (onLI repL) := by
  refine ⟨_, op_repL, fun T O H v1 v2 d1 d2 d Q oh r1 r2 e w => ?_⟩
  obtain ⟨xs, k, rfl, rfl, e1⟩ := onLI_some e
  unfold repL at e1
  split at e1
  · rename_i hk
    cases e1
    obtain ⟨a, vs, rfl, ht, hr⟩ := r1.lst
    refine ⟨a, k, vs, rfl, r2.int, ht, by rw [hr.length]; exact hk, fun p hp => w _ _ (Ex.new hp) ?_⟩
    exact .lst (oh.fresh hp) (.inl upd_same) ((hr.rpt k).adv (Ex.new hp).ra)
  · cases e1
def dMul : D → D → Option D
  | .int i, .int j => dMulI (.int i) (.int j)
  | .tup xs, .int k => repT xs k
  | .str xs, .int k => repS xs k
  | .lst xs, .int k => repL xs k
  | _, _ => none
theorem od_mul : OpD X (binaryOp .Mult) dMul := by
  refine ((int_opDC (f := binaryOp .Mult) op_mul).or (od_repT.or (od_repS.or od_repL))).imp fun a b d h => ?_
  unfold dMul at h
  split at h <;> simp_all [onII, onTI, onSI, onLI, dMulI]

/-! ### operations that make a new list -/
def OpF (X : Cx) (f : Value → Value → Sem Value) (g : D → D → Option D) : Prop :=
  ∃ r : R2, OpR X f r ∧ ∀ (T : Nat → Option Addr) (O : Addr → Prop) (H : Hp) v1 v2 d1 d2 d (Q : VK), OH O H → RT X.K T O H v1 d1 → RT X.K T O H v2 d2 → g d1 d2 = some d → (∀ p vs ds, H p = none → d = .lst ds → Reps X.K T O H vs ds → Q (.ref p) (upd H p (.lst vs))) → r v1 v2 H Q
theorem of_repL : OpF X (binaryOp .Mult) (onLI repL) := by
  refine ⟨_, op_repL, fun T O H v1 v2 d1 d2 d Q oh r1 r2 e w => ?_⟩
  obtain ⟨xs, k, rfl, rfl, e1⟩ := onLI_some e
  unfold repL at e1
  split at e1
  · rename_i hk
    cases e1
    obtain ⟨a, vs, rfl, ht, hr⟩ := r1.lst
    exact ⟨a, k, vs, rfl, r2.int, ht, by rw [hr.length]; exact hk, fun p hp => w p _ _ hp rfl (hr.rpt k)⟩
  · cases e1
theorem of_addL : OpF X (binaryOp .Add) (onLL addL) := by
  refine ⟨_, op_catL, fun T O H v1 v2 d1 d2 d Q oh h1 h2 e q => ?_⟩
  obtain ⟨a, b, rfl, rfl, e'⟩ := onLL_some e
  unfold addL at e'
  split at e'
  · rename_i hl
    cases e'
    obtain ⟨p1, vs1, rfl, s1, r1⟩ := h1.lst
    obtain ⟨p2, vs2, rfl, s2, r2⟩ := h2.lst
    exact ⟨p1, p2, vs1, vs2, rfl, rfl, s1, s2, by rw [r1.length, r2.length, lim_eq]; exact hl, fun p hp => q p _ _ hp rfl (r1.append r2)⟩
  · cases e'
variable {a b c : Expr} {fa fb fc : SE} {g : D → D → Option D}
def fBin (g : D → D → Option D) (f1 f2 : SE) : Env → Res (D × Env) := fun ρ => f1 ρ >>= fun r1 => f2 r1.2 >>= fun r2 => deref r2.2 r1.1 >>= fun d1 => deref r2.2 r2.1 >>= fun d2 => ofOpt (g d1 d2) >>= fun d => .ok (d, r2.2)
theorem ef_bin {op : Operator} (ho : OpF X (binaryOp op) g) (ha : EvE X S W a fa) (hb : EvE X S W b fb) : EvF X S W (.BinOp a op b pos) (fBin g fa fb) := by
  obtain ⟨ta, pa, qa⟩ := ha
  obtain ⟨tb, pb, qb⟩ := hb
  obtain ⟨r, hr, qr⟩ := ho
  refine ⟨_, pe_op hr pa pb, fun C σ H ρ Q E w => ?_⟩
  refine qa C σ H ρ _ E ((Wp.bind w).mono (fun _ _ h => h) fun r1 _ w1 v1 H1 E1 A1 R1 => ?_)
  refine qb C σ H1 r1.2 _ E1 ((Wp.bind w1).mono (fun _ _ h => h) fun r2 _ w2 v2 H2 E2 A2 R2 => ?_)
  obtain ⟨d1, e1, w3⟩ := deref_wp w2
  obtain ⟨d2, e2, w4⟩ := deref_wp w3
  obtain ⟨d, e, w5⟩ := opt_wp w4
  refine qr S.T _ H2 v1 v2 d1 d2 d Q E2.omut ((R1.adv A2).rt E2 e1) (R2.rt E2 e2) e fun p vs ds hp ed rs => ?_
  have x : Ex H2 (upd H2 p (.lst vs)) := Ex.new hp
  refine w5 p _ ((A1.trans A2).back hp) (OH.fresh E2.omut hp) (E2.alloc hp trivial) ((A1.trans A2).trans x.adv) ?_
  show OwnAt _ _ _ _ p d
  rw [ed]
  exact ⟨vs, upd_same, rs.adv (ra_plus hp x)⟩

/-! ### a[i] -/
def dIx : D → D → Option D
  | .lst xs, .int i => atI xs i
  | .tup xs, .int i => atI xs i
  | .str s, .int i => if s.length ≤ LIM then (atI s i).map fun c => .str [c] else none
  | _, _ => none
theorem atI_map {α β : Type} (f : α → β) (xs : List α) (i : Int) : atI (xs.map f) i = (atI xs i).map f := by
  unfold atI
  rw [List.length_map]
  cases ixN xs.length i with
  | none => rfl
  | some j =>
    show (xs.map f)[j]? = (xs[j]?).map f
    rw [List.getElem?_map]
theorem Reps.atI {K : PySem.W.Frag} {T : Nat → Option Addr} {O : Addr → Prop} {H : Hp} {vs : List V} {ds : List D} {i : Int} {d : D} (h : Reps K T O H vs ds) (e : L2.atI ds i = some d) : ∃ v, L2.atI vs i = some v ∧ Rep K T O H v d := by
  unfold L2.atI at e ⊢
  rw [h.length]
  cases q : ixN ds.length i with
  | none => rw [q] at e; cases e
  | some j => rw [q] at e; exact h.get e
theorem S_toList (s : List Nat) : (SX.S s).cps.toList = s := by simp [SX.S]
theorem atI_mem {α : Type} {xs : List α} {i : Int} {x : α} (h : atI xs i = some x) : x ∈ xs := by
  unfold atI at h
  cases q : ixN xs.length i with
  | none => rw [q] at h; cases h
  | some j => rw [q] at h; exact List.mem_of_getElem? h
def IxD (X : Cx) (g : D → D → Option D) : Prop :=
  ∃ r : R2, IxR X r ∧ ∀ (T : Nat → Option Addr) (O : Addr → Prop) (H : Hp) v1 v2 d1 d2 d (Q : VK), OH O H → RT X.K T O H v1 d1 → RT X.K T O H v2 d2 → g d1 d2 = some d → (∀ v H', Ex H H' → Rep X.K T O H' v d → Q v H') → r v1 v2 H Q
theorem ix_all : IxD X dIx := by
  refine ⟨_, ix_seq, fun T O H v1 v2 d1 d2 d Q oh h1 h2 e w => ?_⟩
  unfold dIx at e
  split at e
  · obtain ⟨p, vs, rfl, s1, r1⟩ := h1.lst
    obtain ⟨v, hv, rp⟩ := r1.atI e
    exact .inl ⟨p, vs, _, v, rfl, h2.int, .inl s1, hv, w v H (Ex.refl H) rp⟩
  · obtain ⟨p, vs, rfl, s1, r1⟩ := h1.tup
    obtain ⟨v, hv, rp⟩ := r1.atI e
    exact .inr (.inl ⟨p, vs, _, v, rfl, h2.int, s1.sq, hv, w v H (Ex.refl H) rp⟩)
  · rename_i s i
    split at e
    · rename_i hl
      cases q : atI s i with
      | none => rw [q] at e; cases e
      | some c =>
        rw [q] at e
        cases e
        refine .inr (.inr ⟨_, _, c, h1.str, h2.int, by rw [S_len, lim_eq]; exact hl, by rw [S_toList]; exact q, w _ H (Ex.refl H) (.str [c] fun x hx => ?_)⟩)
        rw [List.mem_singleton] at hx
        rw [hx]
        exact h1.okS c (atI_mem q)
    · cases e
  · cases e
theorem ev_ix (hs : PlainIx b) (hi : IxD X g) (ha : EvE X S W a fa) (hb : EvE X S W b fb) : EvE X S W (.Subscript a b pos) (eBin g fa fb) := by
  obtain ⟨ta, pa, qa⟩ := ha
  obtain ⟨tb, pb, qb⟩ := hb
  obtain ⟨r, hr, qr⟩ := hi
  exact ⟨_, pe_ix hr pa pb hs, fun C σ H ρ Q E w => two qa qb qr E w⟩

/-! ### a[lo:hi] -/
def EvP (X : Cx) (S : ES) (W : WX) (e : Option Expr) (f : Env → Res (Option Int × Env)) : Prop :=
  ∃ t : TO, PO X e t ∧ ∀ (C : EC) (σ : St) (H : Hp) (ρ : Env) (Q : Option Int → Hp → Prop), ER X.K S C σ H ρ →
    Wp (f ρ) (XOk X.K S W C) (fun r => ∀ H', ER X.K S C σ H' r.2 → Adv (C.mo S σ ρ) H (C.mo S σ r.2) H' → Q r.1 H') → t σ H Q
def pNone : Env → Res (Option Int × Env) := fun ρ => .ok (none, ρ)
def asI : DV → Option Int
  | .val (.int i) => some i
  | _ => none
def pSome (f : SE) : Env → Res (Option Int × Env) := fun ρ => f ρ >>= fun r => ofOpt (asI r.1) >>= fun i => .ok (some i, r.2)
theorem ep_none : EvP X S W none pNone := ⟨_, po_none, fun C σ H ρ Q E w => w H E (.refl _ _)⟩
theorem RV.int {C : EC} {σ : St} {H : Hp} {ρ : Env} {v : V} {x : DV} {k : Int} (h : RV X.K S C σ H ρ v x) (e : asI x = some k) : v = .int k := by
  cases x with
  | val d =>
    cases d with
    | int k' =>
      have e' : some k' = some k := e
      cases e'
      have h' : Rep X.K S.T (C.O S σ ρ) H v (.int k) := h
      cases h'
      rfl
    | _ => cases e
  | plc i => cases e
theorem ep_some (h : EvE X S W a fa) : EvP X S W (some a) (pSome fa) := by
  obtain ⟨t, p, q⟩ := h
  refine ⟨_, po_some p, fun C σ H ρ Q E w => ?_⟩
  refine q C σ H ρ _ E ((Wp.bind w).mono (fun _ _ h => h) fun r1 _ w1 v1 H1 E1 A1 R1 => ?_)
  obtain ⟨i, ei, w2⟩ := opt_wp w1
  exact ⟨i, R1.int ei, w2 H1 E1 A1⟩
def cut {α : Type} (xs : List α) (lo hi : Option Int) : List α := (xs.drop (HT.sIx xs.length 0 lo)).take (HT.sIx xs.length xs.length hi - HT.sIx xs.length 0 lo)
def dSl : D → Option Int → Option Int → Option D
  | .lst xs, lo, hi => some (.lst (cut xs lo hi))
  | .tup xs, lo, hi => some (.tup (cut xs lo hi))
  | .str s, lo, hi => if s.length ≤ LIM then some (.str (cut s lo hi)) else none
  | _, _, _ => none
theorem Reps.drop {K : PySem.W.Frag} {T : Nat → Option Addr} {O : Addr → Prop} {H : Hp} : ∀ {vs : List V} {ds : List D} (n : Nat), Reps K T O H vs ds → Reps K T O H (vs.drop n) (ds.drop n)
  | _, _, 0, h => by rw [List.drop_zero, List.drop_zero]; exact h
  | _, _, n + 1, .nil => .nil
  | _, _, n + 1, .cons _ h => by rw [List.drop_succ_cons, List.drop_succ_cons]; exact h.drop n
theorem Reps.take {K : PySem.W.Frag} {T : Nat → Option Addr} {O : Addr → Prop} {H : Hp} : ∀ {vs : List V} {ds : List D} (n : Nat), Reps K T O H vs ds → Reps K T O H (vs.take n) (ds.take n)
  | _, _, 0, h => .nil
  | _, _, n + 1, .nil => .nil
  | _, _, n + 1, .cons h1 h => .cons h1 (h.take n)
theorem Reps.cut {K : PySem.W.Frag} {T : Nat → Option Addr} {O : Addr → Prop} {H : Hp} {vs : List V} {ds : List D} (h : Reps K T O H vs ds) (lo hi : Option Int) : Reps K T O H (cutV vs lo hi) (EV.cut ds lo hi) := by
  unfold cutV EV.cut
  rw [h.length]
  exact (h.drop _).take _
theorem cut_mem {α : Type} {xs : List α} {lo hi : Option Int} {c : α} (h : c ∈ cut xs lo hi) : c ∈ xs := List.mem_of_mem_drop (List.mem_of_mem_take h)
theorem cut_S (s : List Nat) (lo hi : Option Int) : cutS (SX.S s) lo hi = SX.S (cut s lo hi) := by
  unfold cutS cut
  rw [S_toList, S_len]
def eSl (f : SE) (fl fh : Env → Res (Option Int × Env)) : SE := fun ρ => f ρ >>= fun r => fl r.2 >>= fun l => fh l.2 >>= fun h => deref h.2 r.1 >>= fun d => ofOpt (dSl d l.1 h.1) >>= fun d' => .ok (.val d', h.2)
variable {lo hi : Option Expr} {fl fh : Env → Res (Option Int × Env)} {p2 : Pos}
theorem cut_all {α : Type} {xs : List α} {lo hi : Option Int} (h : HT.sIx xs.length 0 lo = 0 ∧ HT.sIx xs.length xs.length hi = xs.length) : cut xs lo hi = xs := by
  unfold cut
  rw [h.1, h.2]
  simp
theorem ev_slice (he : EvE X S W a fa) (hl : EvP X S W lo fl) (hh : EvP X S W hi fh) : EvE X S W (.Subscript a (.Slice lo hi none p2) pos) (eSl fa fl fh) := by
  obtain ⟨t, p, q⟩ := he
  obtain ⟨tl, pl, ql⟩ := hl
  obtain ⟨th, ph, qh⟩ := hh
  refine ⟨_, pe_slice (sl_list.or (EVN.sl_tupN.or sl_str)) p pl ph, fun C σ H ρ Q E w => ?_⟩
  refine q C σ H ρ _ E ((Wp.bind w).mono (fun _ _ h => h) fun r1 _ w1 v1 H1 E1 A1 R1 => ?_)
  refine ql C σ H1 r1.2 _ E1 ((Wp.bind w1).mono (fun _ _ h => h) fun r2 _ w2 H2 E2 A2 => ?_)
  refine qh C σ H2 r2.2 _ E2 ((Wp.bind w2).mono (fun _ _ h => h) fun r3 _ w3 H3 E3 A3 => ?_)
  obtain ⟨d, e1, w4⟩ := deref_wp w3
  obtain ⟨d', e2, w5⟩ := opt_wp w4
  have rt := (R1.adv (A2.trans A3)).rt E3 e1
  have A := (A1.trans A2).trans A3
  unfold dSl at e2
  split at e2
  · cases e2
    obtain ⟨p, vs, rfl, s1, rs⟩ := rt.lst
    refine .inl ⟨p, vs, rfl, .inl s1, fun p' hp => ?_⟩
    have x : Ex H3 (upd H3 p' (.lst (cutV vs r2.1 r3.1))) := Ex.new hp
    exact w5 _ _ (E3.ext x) (A.trans x.adv) (Rep.lst (OH.fresh E3.omut hp) (.inl upd_same) ((rs.cut _ _).adv x.ra))
  · cases e2
    obtain ⟨p, vs, rfl, s1, rs⟩ := rt.tup
    refine .inr (.inl ⟨p, vs, rfl, s1.sq, fun hw => ?_, fun hw p' o hp hd => ?_⟩)
    · rw [rs.length] at hw
      rw [cut_all hw] at w5
      exact w5 _ _ E3 A (Rep.tup s1 rs)
    · have x : Ex H3 (upd H3 p' (.frz o (.tup (cutV vs r2.1 r3.1)))) := Ex.new hp
      exact w5 _ _ (E3.ext x) (A.trans x.adv) (Rep.tup (.fresh (OH.fresh E3.omut hp) upd_same hd) ((rs.cut _ _).adv x.ra))
  · split at e2
    · rename_i hl
      cases e2
      refine .inr (.inr ⟨_, rt.str, by rw [S_len, lim_eq]; exact hl, ?_⟩)
      rw [cut_S]
      exact w5 _ _ E3 A (Rep.str _ fun c hc => rt.okS c (cut_mem hc))
    · cases e2
  · cases e2
end
end EV

namespace EV
open PySem PySem.Spec L2 SX
open PyProof.Rows hiding St

/-! ### calls of what is built in -/
def RTs (K : PySem.W.Frag) (T : Nat → Option Addr) (O : Addr → Prop) (H : Hp) : List V → List D → Prop
  | [], [] => True
  | v :: vs, d :: ds => RT K T O H v d ∧ RTs K T O H vs ds
  | _, _ => False
/-- f does to data what g says -/
def CalD (X : Cx) (f : Value) (g : List D → Option D) : Prop :=
  ∃ r, CallR X f r ∧ ∀ (T : Nat → Option Addr) (O : Addr → Prop) (H : Hp) vs ds d (Q : VK), OH O H → RTs X.K T O H vs ds → g ds = some d → (∀ v H', Ex H H' → Rep X.K T O H' v d → Q v H') → r vs H Q
/-- what a new object holds -/
def NewAt (K : PySem.W.Frag) (T : Nat → Option Addr) (O : Addr → Prop) (H : Hp) (u : HO) : D → Prop
  | .lst ds => ∃ vs, u = .lst vs ∧ Reps K T O H vs ds
  | .dk ds => ∃ vs, u = .dK vs ∧ RepK K T O H vs ds
  | _ => False
theorem NewAt.mut {K : PySem.W.Frag} {T : Nat → Option Addr} {O : Addr → Prop} {H : Hp} {u : HO} {d : D} (h : NewAt K T O H u d) : Mut (some u) := by
  cases d with
  | lst ds => obtain ⟨vs, rfl, _⟩ := h; trivial
  | dk ds => obtain ⟨vs, rfl, _⟩ := h; trivial
  | _ => exact h.elim
theorem NewAt.own {K : PySem.W.Frag} {T : Nat → Option Addr} {O O' : Addr → Prop} {H : Hp} {p : Addr} {u : HO} {d : D} (h : NewAt K T O H u d) (ra : RA O H O' (upd H p u)) : OwnAt K T O' (upd H p u) p d := by
  cases d with
  | lst ds => obtain ⟨vs, rfl, r⟩ := h; exact ⟨vs, upd_same, r.adv ra⟩
  | dk ds => obtain ⟨vs, rfl, r⟩ := h; exact ⟨vs, upd_same, r.adv ra⟩
  | _ => exact h.elim
theorem NewAt.rep {K : PySem.W.Frag} {T : Nat → Option Addr} {O : Addr → Prop} {H : Hp} {p : Addr} {u : HO} {d : D} (h : NewAt K T O H u d) (oh : OH O H) (hp : H p = none) : Rep K T O (upd H p u) (.ref p) d :=
  (h.own (Ex.new hp).ra).rep (oh.fresh hp)
def CalF' (X : Cx) (f : Value) (g : List D → Option D) : Prop :=
  ∃ r, CallR X f r ∧ ∀ (T : Nat → Option Addr) (O : Addr → Prop) (H : Hp) vs ds d (Q : VK), OH O H → RTs X.K T O H vs ds → g ds = some d → (∀ p u, H p = none → NewAt X.K T O H u d → Q (.ref p) (upd H p u)) → r vs H Q
theorem CalF'.d {X : Cx} {f : Value} {g : List D → Option D} (h : CalF' X f g) : CalD X f g := by
  obtain ⟨r, c, q⟩ := h
  exact ⟨r, c, fun T O H vs ds d Q oh rt e w => q T O H vs ds d Q oh rt e fun p u hp na => w _ _ (Ex.new hp) (na.rep oh hp)⟩
theorem CallR.or {X : Cx} {f : Value} {r r' : List V → Hp → VK → Prop} (h : CallR X f r) (h' : CallR X f r') : CallR X f (fun xs H Q => r xs H Q ∨ r' xs H Q) := by
  intro pins s σ H xs us Q I rs q
  rcases q with q | q
  · exact h pins s σ H xs us Q I rs q
  · exact h' pins s σ H xs us Q I rs q
theorem CalD.or {X : Cx} {f : Value} {g g' : List D → Option D} (h : CalD X f g) (h' : CalD X f g') : CalD X f (fun ds => (g ds).or (g' ds)) := by
  obtain ⟨r, c, q⟩ := h
  obtain ⟨r', c', q'⟩ := h'
  refine ⟨_, CallR.or c c', fun T O H vs ds d Q oh rt e w => ?_⟩
  cases z : g ds with
  | some d' =>
    have e' : (g ds).or (g' ds) = some d := e
    rw [z] at e'
    cases e'
    exact .inl (q T O H vs ds d Q oh rt z w)
  | none =>
    have e' : (g ds).or (g' ds) = some d := e
    rw [z] at e'
    exact .inr (q' T O H vs ds d Q oh rt e' w)
theorem CalD.imp {X : Cx} {f : Value} {g g' : List D → Option D} (h : CalD X f g) (hg : ∀ ds d, g' ds = some d → g ds = some d) : CalD X f g' := by
  obtain ⟨r, c, q⟩ := h
  exact ⟨r, c, fun T O H vs ds d Q oh rt e w => q T O H vs ds d Q oh rt (hg _ _ e) w⟩
section
variable {X : Cx} {S : ES} {W : WX} {pos p : Pos} {x : Str} {e : Expr} {es : List Expr} {fs : Env → Res (List DV × Env)} {g : List D → Option D}
theorem rdA_rt {C : EC} {σ : St} {H : Hp} {ρ : Env} (E : ER X.K S C σ H ρ) : ∀ {vs : List V} {xs : List DV} {ds : List D}, RVs X.K S C σ H ρ vs xs → rdA ρ xs = some ds → RTs X.K S.T (C.O S σ ρ) H vs ds
  | [], [], ds, _, e => by cases e; exact trivial
  | v :: vs, .val d :: xs, ds, h, e => by
    have e' : (rdA ρ xs).map (d :: ·) = some ds := e
    cases q : rdA ρ xs with
    | none => rw [q] at e'; cases e'
    | some ds' =>
      rw [q] at e'
      obtain rfl : d :: ds' = ds := by simpa using e'
      exact ⟨.inl h.1, rdA_rt (xs := xs) E h.2 q⟩
  | v :: vs, .plc i :: xs, ds, h, e => by
    have e' : ((gt ρ i).bind fun d => (rdA ρ xs).map (d :: ·)) = some ds := e
    cases q0 : gt ρ i with
    | none => rw [q0] at e'; cases e'
    | some d =>
      rw [q0] at e'
      have e'' : (rdA ρ xs).map (d :: ·) = some ds := e'
      cases q : rdA ρ xs with
      | none => rw [q] at e''; cases e''
      | some ds' =>
        rw [q] at e''
        obtain rfl : d :: ds' = ds := by simpa using e''
        exact ⟨RV.rt (x := .plc i) E h.1 (by show ofOpt (gt ρ i) = .ok d; rw [q0]; rfl), rdA_rt (xs := xs) E h.2 q⟩
  | [], _ :: _, _, h, _ => h.elim
  | _ :: _, [], _, h, _ => h.elim
def eBlt (g : List D → Option D) (fs : Env → Res (List DV × Env)) : SE := fun ρ => fs ρ >>= fun r => ofOpt (rdA r.2 r.1) >>= fun ds => ofOpt (g ds) >>= fun d => .ok (.val d, r.2)
def fBlt (g : List D → Option D) (fs : Env → Res (List DV × Env)) : Env → Res (D × Env) := fun ρ => fs ρ >>= fun r => ofOpt (rdA r.2 r.1) >>= fun ds => ofOpt (g ds) >>= fun d => .ok (d, r.2)
theorem cb_ok {r : List V → Hp → VK → Prop} {t : TA} (qr : ∀ (T : Nat → Option Addr) (O : Addr → Prop) (H : Hp) vs ds d (Q : VK), OH O H → RTs X.K T O H vs ds → g ds = some d → (∀ v H', Ex H H' → Rep X.K T O H' v d → Q v H') → r vs H Q)
    (q : ∀ (C : EC) (σ : St) (H : Hp) (ρ : Env) (Q : List V → Hp → Prop), ER X.K S C σ H ρ → Wp (fs ρ) (XOk X.K S W C) (fun r => ∀ vs H', ER X.K S C σ H' r.2 → Adv (C.mo S σ ρ) H (C.mo S σ r.2) H' → RVs X.K S C σ H' r.2 vs r.1 → Q vs H') → t σ H Q)
    {C : EC} {σ : St} {H : Hp} {ρ : Env} {Q : VK} (E : ER X.K S C σ H ρ) (w : Wp (eBlt g fs ρ) (XOk X.K S W C) (fun r => ∀ v H', ER X.K S C σ H' r.2 → Adv (C.mo S σ ρ) H (C.mo S σ r.2) H' → RV X.K S C σ H' r.2 v r.1 → Q v H')) : tCB r t σ H Q := by
  refine q C σ H ρ _ E ((Wp.bind w).mono (fun _ _ h => h) fun r1 _ w1 vs H1 E1 A1 R1 => ?_)
  obtain ⟨ds, e1, w2⟩ := opt_wp w1
  obtain ⟨d, e2, w3⟩ := opt_wp w2
  exact qr S.T _ H1 vs ds d Q E1.omut (rdA_rt E1 R1 e1) e2 fun v H' x rp => w3 v H' (E1.ext x) (A1.trans x.adv) rp
theorem cf_ok {r : List V → Hp → VK → Prop} {t : TA} (qr : ∀ (T : Nat → Option Addr) (O : Addr → Prop) (H : Hp) vs ds d (Q : VK), OH O H → RTs X.K T O H vs ds → g ds = some d → (∀ p u, H p = none → NewAt X.K T O H u d → Q (.ref p) (upd H p u)) → r vs H Q)
    (q : ∀ (C : EC) (σ : St) (H : Hp) (ρ : Env) (Q : List V → Hp → Prop), ER X.K S C σ H ρ → Wp (fs ρ) (XOk X.K S W C) (fun r => ∀ vs H', ER X.K S C σ H' r.2 → Adv (C.mo S σ ρ) H (C.mo S σ r.2) H' → RVs X.K S C σ H' r.2 vs r.1 → Q vs H') → t σ H Q)
    {C : EC} {σ : St} {H : Hp} {ρ : Env} {Q : VK} (E : ER X.K S C σ H ρ) (w : Wp (fBlt g fs ρ) (XOk X.K S W C) (fun r => ∀ p H', H p = none → ¬ C.O S σ r.2 p → ER X.K S (C.pl [p]) σ H' r.2 → Adv (C.mo S σ ρ) H (C.mo S σ r.2) H' → OwnAt X.K S.T ((C.pl [p]).O S σ r.2) H' p r.1 → Q (.ref p) H')) : tCB r t σ H Q := by
  refine q C σ H ρ _ E ((Wp.bind w).mono (fun _ _ h => h) fun r1 _ w1 vs H1 E1 A1 R1 => ?_)
  obtain ⟨ds, e1, w2⟩ := opt_wp w1
  obtain ⟨d, e2, w3⟩ := opt_wp w2
  refine qr S.T _ H1 vs ds d Q E1.omut (rdA_rt E1 R1 e1) e2 fun p u hp na => ?_
  have x : Ex H1 (upd H1 p u) := Ex.new hp
  exact w3 p _ (A1.back hp) (OH.fresh E1.omut hp) (E1.alloc hp na.mut) (A1.trans x.adv) (na.own (ra_plus hp x))
theorem ev_blt {id : String} (c : CalD X (.builtin id) g) (hg : Gl X x) (hm : X.mg x = none) (hv : bootBuiltins x = some (.builtin id)) (ha : EvA X S W (e :: es) fs) (hn : x ≠ "__name__" := by decide) (hdb : (x == ("__debug__" : Str)) = false := by decide)
    (he : starEach (e :: es) X.env = (false, eval e X.env) :: starEach es X.env := by rfl) (hpl : (backTo pos (starEach es X.env)).any (·.1) = false := by rfl) : EvE X S W (.Call (.Name x p) (e :: es) [] pos) (eBlt g fs) := by
  obtain ⟨r, c, qr⟩ := c
  obtain ⟨t, pt, q⟩ := ha
  exact ⟨_, pe_callB c hg hm hv pt hn hdb he hpl, fun C σ H ρ Q E w => cb_ok qr q E w⟩
theorem ev_ty {T : String} (c : CalD X (.type T) g) (hg : Gl X x) (hm : X.mg x = none) (hv : bootBuiltins x = some (.type T)) (ha : EvA X S W (e :: es) fs) (hn : x ≠ "__name__" := by decide) (hdb : (x == ("__debug__" : Str)) = false := by decide)
    (he : starEach (e :: es) X.env = (false, eval e X.env) :: starEach es X.env := by rfl) (hpl : (backTo pos (starEach es X.env)).any (·.1) = false := by rfl) : EvE X S W (.Call (.Name x p) (e :: es) [] pos) (eBlt g fs) := by
  obtain ⟨r, c, qr⟩ := c
  obtain ⟨t, pt, q⟩ := ha
  exact ⟨_, pe_callTy c hg hm hv pt hn hdb he hpl, fun C σ H ρ Q E w => cb_ok qr q E w⟩
theorem ef_blt {id : String} (c : CalF' X (.builtin id) g) (hg : Gl X x) (hm : X.mg x = none) (hv : bootBuiltins x = some (.builtin id)) (ha : EvA X S W (e :: es) fs) (hn : x ≠ "__name__" := by decide) (hdb : (x == ("__debug__" : Str)) = false := by decide)
    (he : starEach (e :: es) X.env = (false, eval e X.env) :: starEach es X.env := by rfl) (hpl : (backTo pos (starEach es X.env)).any (·.1) = false := by rfl) : EvF X S W (.Call (.Name x p) (e :: es) [] pos) (fBlt g fs) := by
  obtain ⟨r, c, qr⟩ := c
  obtain ⟨t, pt, q⟩ := ha
  exact ⟨_, pe_callB c hg hm hv pt hn hdb he hpl, fun C σ H ρ Q E w => cf_ok qr q E w⟩
theorem ef_ty {T : String} (c : CalF' X (.type T) g) (hg : Gl X x) (hm : X.mg x = none) (hv : bootBuiltins x = some (.type T)) (ha : EvA X S W (e :: es) fs) (hn : x ≠ "__name__" := by decide) (hdb : (x == ("__debug__" : Str)) = false := by decide)
    (he : starEach (e :: es) X.env = (false, eval e X.env) :: starEach es X.env := by rfl) (hpl : (backTo pos (starEach es X.env)).any (·.1) = false := by rfl) : EvF X S W (.Call (.Name x p) (e :: es) [] pos) (fBlt g fs) := by
  obtain ⟨r, c, qr⟩ := c
  obtain ⟨t, pt, q⟩ := ha
  exact ⟨_, pe_callTy c hg hm hv pt hn hdb he hpl, fun C σ H ρ Q E w => cf_ok qr q E w⟩
theorem RTs.one {K : PySem.W.Frag} {T : Nat → Option Addr} {O : Addr → Prop} {H : Hp} {vs : List V} {d : D} (h : RTs K T O H vs [d]) : ∃ v, vs = [v] ∧ RT K T O H v d := by
  match vs, h with
  | [v], h => exact ⟨v, rfl, h.1⟩
  | [], h => exact h.elim
  | _ :: _ :: _, h => exact h.2.elim
theorem RTs.two {K : PySem.W.Frag} {T : Nat → Option Addr} {O : Addr → Prop} {H : Hp} {vs : List V} {d d' : D} (h : RTs K T O H vs [d, d']) : ∃ v v', vs = [v, v'] ∧ RT K T O H v d ∧ RT K T O H v' d' := by
  match vs, h with
  | [v, v'], h => exact ⟨v, v', rfl, h.1, h.2.1⟩
  | [], h => exact h.elim
  | [_], h => exact h.2.elim
  | _ :: _ :: _ :: _, h => exact h.2.2.elim

/-! ### len -/
def bLen : List D → Option D
  | [.str s] => if s.length ≤ LIM then some (.int s.length) else none
  | [.lst xs] => some (.int xs.length)
  | [.tup xs] => some (.int xs.length)
  | _ => none
theorem cd_len : CalD X (.builtin "len") bLen := by
  refine ⟨_, call_len, fun T O H vs ds d Q oh rt e w => ?_⟩
  unfold bLen at e
  split at e
  · split at e
    · rename_i hl
      cases e
      obtain ⟨v, rfl, h⟩ := rt.one
      refine ⟨v, _, rfl, ?_, w _ H (Ex.refl H) (.int _)⟩
      rw [h.str]
      exact ⟨by rw [S_len, lim_eq]; exact hl, (S_len _).symm⟩
    · cases e
  · cases e
    obtain ⟨v, rfl, h⟩ := rt.one
    obtain ⟨a, vs, rfl, h1, h2⟩ := h.lst
    exact ⟨_, _, rfl, .inl ⟨vs, .inl h1, h2.length.symm⟩, w _ H (Ex.refl H) (.int _)⟩
  · cases e
    obtain ⟨v, rfl, h⟩ := rt.one
    obtain ⟨a, vs, rfl, h1, h2⟩ := h.tup
    exact ⟨_, _, rfl, .inr ⟨vs, h1.sq, h2.length.symm⟩, w _ H (Ex.refl H) (.int _)⟩
  · cases e

/-! ### numbers -/
def bAbs : List D → Option D
  | [.int i] => some (.int (if i < 0 then -i else i))
  | _ => none
theorem cd_abs : CalD X (.builtin "abs") bAbs := by
  refine ⟨_, call_abs, fun T O H vs ds d Q oh rt e w => ?_⟩
  unfold bAbs at e
  split at e
  · cases e
    obtain ⟨v, rfl, h⟩ := rt.one
    exact ⟨_, by rw [h.int], w _ H (Ex.refl H) (.int _)⟩
  · cases e
def bMax2 : List D → Option D
  | [.int i, .int j] => some (.int (if j > i then j else i))
  | _ => none
def bMin2 : List D → Option D
  | [.int i, .int j] => some (.int (if j < i then j else i))
  | _ => none
theorem cd_max2 (hc : X.calm = true) : CalD X (.builtin "max") bMax2 := by
  refine ⟨_, call_max2 hc, fun T O H vs ds d Q oh rt e w => ?_⟩
  unfold bMax2 at e
  split at e
  · cases e
    obtain ⟨v, v', rfl, h, h'⟩ := rt.two
    exact ⟨_, _, by rw [h.int, h'.int], w _ H (Ex.refl H) (.int _)⟩
  · cases e
theorem cd_min2 (hc : X.calm = true) : CalD X (.builtin "min") bMin2 := by
  refine ⟨_, call_min2 hc, fun T O H vs ds d Q oh rt e w => ?_⟩
  unfold bMin2 at e
  split at e
  · cases e
    obtain ⟨v, v', rfl, h, h'⟩ := rt.two
    exact ⟨_, _, by rw [h.int, h'.int], w _ H (Ex.refl H) (.int _)⟩
  · cases e
def bInt : List D → Option D
  | [.int i] => some (.int i)
  | [.bl k] => some (.int (if k then 1 else 0))
  | _ => none
theorem cd_int : CalD X (.type "int") bInt := by
  refine ⟨_, call_int1, fun T O H vs ds d Q oh rt e w => ?_⟩
  unfold bInt at e
  split at e
  · cases e
    obtain ⟨v, rfl, h⟩ := rt.one
    exact .inl ⟨_, by rw [h.int], w _ H (Ex.refl H) (.int _)⟩
  · cases e
    obtain ⟨v, rfl, h⟩ := rt.one
    exact .inr ⟨_, by rw [h.bl], w _ H (Ex.refl H) (.int _)⟩
  · cases e
/-- lists of ints, of bools -/
def dInts : List D → Option (List Int)
  | [] => some []
  | .int i :: r => (dInts r).map (i :: ·)
  | _ => none
def dBls : List D → Option (List Bool)
  | [] => some []
  | .bl i :: r => (dBls r).map (i :: ·)
  | _ => none
def dStrs : List D → Option (List (List Nat))
  | [] => some []
  | .str i :: r => (dStrs r).map (i :: ·)
  | _ => none
theorem ints_eq : ∀ {ds : List D} {ns : List Int}, dInts ds = some ns → ds = ns.map D.int
  | [], ns, e => by cases e; rfl
  | .int i :: r, ns, e => by
    have e' : (dInts r).map (i :: ·) = some ns := e
    cases q : dInts r with
    | none => rw [q] at e'; cases e'
    | some ms =>
      rw [q] at e'
      obtain rfl : i :: ms = ns := by simpa using e'
      rw [ints_eq q]
      rfl
  | .non :: _, _, e => nomatch e
  | .bl _ :: _, _, e => nomatch e
  | .str _ :: _, _, e => nomatch e
  | .tup _ :: _, _, e => nomatch e
  | .lst _ :: _, _, e => nomatch e
  | .dk _ :: _, _, e => nomatch e
  | .dt _ :: _, _, e => nomatch e
  | .fn _ :: _, _, e => nomatch e
  | .scr _ :: _, _, e => nomatch e
theorem bls_eq : ∀ {ds : List D} {ns : List Bool}, dBls ds = some ns → ds = ns.map D.bl
  | [], ns, e => by cases e; rfl
  | .bl i :: r, ns, e => by
    have e' : (dBls r).map (i :: ·) = some ns := e
    cases q : dBls r with
    | none => rw [q] at e'; cases e'
    | some ms =>
      rw [q] at e'
      obtain rfl : i :: ms = ns := by simpa using e'
      rw [bls_eq q]
      rfl
  | .non :: _, _, e => nomatch e
  | .int _ :: _, _, e => nomatch e
  | .str _ :: _, _, e => nomatch e
  | .tup _ :: _, _, e => nomatch e
  | .lst _ :: _, _, e => nomatch e
  | .dk _ :: _, _, e => nomatch e
  | .dt _ :: _, _, e => nomatch e
  | .fn _ :: _, _, e => nomatch e
  | .scr _ :: _, _, e => nomatch e
theorem strs_eq : ∀ {ds : List D} {ns : List (List Nat)}, dStrs ds = some ns → ds = ns.map D.str
  | [], ns, e => by cases e; rfl
  | .str i :: r, ns, e => by
    have e' : (dStrs r).map (i :: ·) = some ns := e
    cases q : dStrs r with
    | none => rw [q] at e'; cases e'
    | some ms =>
      rw [q] at e'
      obtain rfl : i :: ms = ns := by simpa using e'
      rw [strs_eq q]
      rfl
  | .non :: _, _, e => nomatch e
  | .int _ :: _, _, e => nomatch e
  | .bl _ :: _, _, e => nomatch e
  | .tup _ :: _, _, e => nomatch e
  | .lst _ :: _, _, e => nomatch e
  | .dk _ :: _, _, e => nomatch e
  | .dt _ :: _, _, e => nomatch e
  | .fn _ :: _, _, e => nomatch e
  | .scr _ :: _, _, e => nomatch e
theorem Reps.ints {K : PySem.W.Frag} {T : Nat → Option Addr} {O : Addr → Prop} {H : Hp} : ∀ {ns : List Int} {vs : List V}, Reps K T O H vs (ns.map D.int) → vs = ns.map V.int
  | [], vs, h => by cases h; rfl
  | n :: ns, vs, h => by
    cases h with
    | cons h1 h2 => cases h1; rw [Reps.ints h2]; rfl
theorem Reps.bls {K : PySem.W.Frag} {T : Nat → Option Addr} {O : Addr → Prop} {H : Hp} : ∀ {ns : List Bool} {vs : List V}, Reps K T O H vs (ns.map D.bl) → vs = ns.map V.bl
  | [], vs, h => by cases h; rfl
  | n :: ns, vs, h => by
    cases h with
    | cons h1 h2 => cases h1; rw [Reps.bls h2]; rfl
theorem Reps.strs {K : PySem.W.Frag} {T : Nat → Option Addr} {O : Addr → Prop} {H : Hp} : ∀ {ns : List (List Nat)} {vs : List V}, Reps K T O H vs (ns.map D.str) → vs = (ns.map SX.S).map V.str ∧ ∀ s, s ∈ ns → okS s
  | [], vs, h => by cases h; exact ⟨rfl, fun s hs => nomatch hs⟩
  | n :: ns, vs, h => by
    cases h with
    | cons h1 h2 =>
      cases h1 with
      | str _ hs =>
        obtain ⟨e, o⟩ := Reps.strs h2
        refine ⟨by rw [e]; rfl, fun s hm => ?_⟩
        rcases List.mem_cons.mp hm with rfl | hm
        · exact hs
        · exact o s hm
theorem Reps.ofInts {K : PySem.W.Frag} {T : Nat → Option Addr} {O : Addr → Prop} {H : Hp} : ∀ (ns : List Int), Reps K T O H (ns.map V.int) (ns.map D.int)
  | [] => .nil
  | n :: ns => .cons (.int n) (Reps.ofInts ns)
theorem Reps.ofStrs {K : PySem.W.Frag} {T : Nat → Option Addr} {O : Addr → Prop} {H : Hp} : ∀ (ns : List (List Nat)), (∀ s, s ∈ ns → okS s) → Reps K T O H ((ns.map SX.S).map V.str) (ns.map D.str)
  | [], _ => .nil
  | n :: ns, h => .cons (.str n (h n (List.mem_cons_self ..))) (Reps.ofStrs ns fun s hs => h s (List.mem_cons_of_mem _ hs))
def bAll : List D → Option D
  | [.lst xs] => (dBls xs).map fun bs => .bl (bs.all id)
  | _ => none
def bAny : List D → Option D
  | [.lst xs] => (dBls xs).map fun bs => .bl (bs.any id)
  | _ => none
theorem map_some' {α β : Type} {o : Option α} {f : α → β} {b : β} (h : o.map f = some b) : ∃ a, o = some a ∧ f a = b := by
  cases o with
  | none => cases h
  | some a => exact ⟨a, rfl, Option.some.inj h⟩
theorem cd_all (hc : X.calm = true) : CalD X (.builtin "all") bAll := by
  refine ⟨_, cr_all hc, fun T O H vs ds d Q oh rt e w => ?_⟩
  unfold bAll at e
  split at e
  · obtain ⟨bs, e1, rfl⟩ := map_some' e
    obtain rfl := bls_eq e1
    obtain ⟨v, rfl, h⟩ := rt.one
    obtain ⟨a, vs, rfl, h1, h2⟩ := h.lst
    obtain rfl := h2.bls
    exact ⟨a, bs, rfl, .inl h1, w _ H (Ex.refl H) (.bl _)⟩
  · cases e
theorem cd_any (hc : X.calm = true) : CalD X (.builtin "any") bAny := by
  refine ⟨_, cr_any hc, fun T O H vs ds d Q oh rt e w => ?_⟩
  unfold bAny at e
  split at e
  · obtain ⟨bs, e1, rfl⟩ := map_some' e
    obtain rfl := bls_eq e1
    obtain ⟨v, rfl, h⟩ := rt.one
    obtain ⟨a, vs, rfl, h1, h2⟩ := h.lst
    obtain rfl := h2.bls
    exact ⟨a, bs, rfl, .inl h1, w _ H (Ex.refl H) (.bl _)⟩
  · cases e
/-! ### tuple, list -/
def bTup : List D → Option D
  | [.lst xs] => some (.tup xs)
  | [.tup xs] => some (.tup xs)
  | _ => none
theorem cd_tup : CalD X (.type "tuple") bTup := by
  refine ⟨_, EVN.call_tupleN, fun T O H vs ds d Q oh rt e w => ?_⟩
  unfold bTup at e
  split at e
  · cases e
    obtain ⟨v, rfl, h⟩ := rt.one
    obtain ⟨a, vs, rfl, h1, h2⟩ := h.lst
    exact ⟨a, vs, rfl, .inl ⟨.inl h1, fun l o hl hd => w _ _ (Ex.new hl) (.tup (.fresh (oh.fresh hl) upd_same hd) (h2.adv (Ex.new hl).ra))⟩⟩
  · cases e
    obtain ⟨v, rfl, h⟩ := rt.one
    obtain ⟨a, vs, rfl, h1, h2⟩ := h.tup
    exact ⟨a, vs, rfl, .inr ⟨h1.sq, w _ H (Ex.refl H) (.tup h1 h2)⟩⟩
  · cases e
def bLst : List D → Option D
  | [.lst xs] => some (.lst xs)
  | [.tup xs] => some (.lst xs)
  | [.scr ns] => some (.lst (ns.map D.int))
  | _ => none
theorem cf_lst : CalF' X (.type "list") bLst := by
  refine ⟨_, call_list_of, fun T O H vs ds d Q oh rt e w => ?_⟩
  unfold bLst at e
  split at e
  · cases e
    obtain ⟨v, rfl, h⟩ := rt.one
    obtain ⟨a, vs, rfl, h1, h2⟩ := h.lst
    exact ⟨a, vs, rfl, .inl (.inl h1), fun l hl => w l _ hl ⟨vs, rfl, h2⟩⟩
  · cases e
    obtain ⟨v, rfl, h⟩ := rt.one
    obtain ⟨a, vs, rfl, h1, h2⟩ := h.tup
    exact ⟨a, vs, rfl, .inr h1.sq, fun l hl => w l _ hl ⟨vs, rfl, h2⟩⟩
  · cases e
    rename_i ns
    obtain ⟨v, rfl, h⟩ := rt.one
    rcases h with h | ⟨a, rfl, h⟩
    · cases h with
      | scr h1 => exact ⟨_, _, rfl, .inl h1.sq, fun l hl => w l _ hl ⟨_, rfl, Reps.ofInts ns⟩⟩
    · exact h.elim
  · cases e
def bSum : List D → Option D
  | [.lst xs] => (dInts xs).map fun ns => .int ns.sum
  | _ => none
theorem cd_sum (hc : X.calm = true) : CalD X (.builtin "sum") bSum := by
  refine ⟨_, cr_sum hc, fun T O H vs ds d Q oh rt e w => ?_⟩
  unfold bSum at e
  split at e
  · obtain ⟨bs, e1, rfl⟩ := map_some' e
    obtain rfl := ints_eq e1
    obtain ⟨v, rfl, h⟩ := rt.one
    obtain ⟨a, vs, rfl, h1, h2⟩ := h.lst
    obtain rfl := h2.ints
    exact ⟨a, bs, rfl, .inl h1, w _ H (Ex.refl H) (.int _)⟩
  · cases e
end
end EV

namespace EV
open PySem PySem.Spec L2 SX
open PyProof.Rows hiding St

/-! ### order of data -/
mutual
def D.toks : D → List (Int ⊕ List Nat)
  | .bl b => [.inl (if b = true then 1 else 0)]
  | .int n => [.inl n]
  | .str x => [.inr x]
  | .lst xs => toksL xs
  | .tup xs => toksL xs
  | _ => []
def toksL : List D → List (Int ⊕ List Nat)
  | [] => [.inl 0]
  | x :: xs => .inl 1 :: (x.toks ++ toksL xs)
end
mutual
def D.alk : D → D → Bool
  | .bl _, .bl _ => true
  | .int _, .int _ => true
  | .str _, .str _ => true
  | .lst xs, .lst ys => alkL xs ys
  | .tup xs, .tup ys => alkL xs ys
  | _, _ => false
def alkL : List D → List D → Bool
  | [], _ => true
  | x :: xs, y :: ys => x.alk y && alkL xs ys
  | _ :: _, [] => false
end
def D.ltb (a b : D) : Bool := PyProof.Rows.lexLt itemOrd a.toks b.toks
mutual
theorem py_toks : ∀ d : D, d.lay = true → PySem.W.keyToks d.py = d.toks
  | .non, _ => rfl
  | .bl b, _ => rfl
  | .int n, _ => rfl
  | .str x, _ => by
    show [Sum.inr (SX.S x).cps.toList] = [Sum.inr x]
    rw [S_toList]
  | .lst xs, h => pyL_toks xs h
  | .tup xs, h => pyL_toks xs h
  | .dk _, h => nomatch h
  | .dt _, h => nomatch h
  | .fn _, h => nomatch h
  | .scr _, h => nomatch h
theorem pyL_toks : ∀ ds : List D, layL ds = true → PySem.W.keyToksAll (pyL ds) = toksL ds
  | [], _ => rfl
  | d :: ds, h => by
    have h' : (d.lay && layL ds) = true := h
    rw [Bool.and_eq_true] at h'
    show Sum.inl 1 :: (PySem.W.keyToks d.py ++ PySem.W.keyToksAll (pyL ds)) = Sum.inl 1 :: (d.toks ++ toksL ds)
    rw [py_toks d h'.1, pyL_toks ds h'.2]
end
mutual
theorem py_alk : ∀ a b : D, a.lay = true → b.lay = true → a.alk b = true → PySem.W.alike a.py b.py = true
  | .bl _, b, _, _, h => by cases b <;> first | rfl | cases h
  | .int _, b, _, _, h => by cases b <;> first | rfl | cases h
  | .str _, b, _, _, h => by cases b <;> first | rfl | cases h
  | .lst xs, b, la, lb, h => by cases b <;> first | exact pyL_alk xs _ la lb h | cases h
  | .tup xs, b, la, lb, h => by cases b <;> first | exact pyL_alk xs _ la lb h | cases h
  | .non, b, _, _, h => by cases b <;> cases h
  | .dk _, _, h, _, _ => nomatch h
  | .dt _, _, h, _, _ => nomatch h
  | .fn _, _, h, _, _ => nomatch h
  | .scr _, _, h, _, _ => nomatch h
theorem pyL_alk : ∀ xs ys : List D, layL xs = true → layL ys = true → alkL xs ys = true → PySem.W.alikeAll (pyL xs) (pyL ys) = true
  | [], ys, _, _, _ => by cases ys <;> rfl
  | x :: xs, [], _, _, h => nomatch h
  | x :: xs, y :: ys, la, lb, h => by
    have la' : (x.lay && layL xs) = true := la
    have lb' : (y.lay && layL ys) = true := lb
    have h' : (x.alk y && alkL xs ys) = true := h
    rw [Bool.and_eq_true] at la' lb' h'
    show (PySem.W.alike x.py y.py && PySem.W.alikeAll (pyL xs) (pyL ys)) = true
    rw [py_alk x y la'.1 lb'.1 h'.1, pyL_alk xs ys la'.2 lb'.2 h'.2]
    rfl
end
theorem py_none {a b : D} (h : a.alk b = true) : a.py ≠ .none := by
  cases a <;> first | (cases b <;> cases h; done) | (intro e; unfold D.py at e; cases e)
theorem py_lt {a b : D} (ha : a.lay = true) (hb : b.lay = true) : PySem.W.dataLt a.py b.py = a.ltb b := by
  unfold PySem.W.dataLt D.ltb
  rw [py_toks a ha, py_toks b hb]
section
variable {X : Cx} {S : ES} {W : WX} {pos : Pos}
def cmpOk (a b : D) : Bool := a.lay && b.lay && decide (min a.dep b.dep ≤ 64) && a.alk b
theorem cmpOk_of {a b : D} (h : cmpOk a b = true) : a.lay = true ∧ b.lay = true ∧ min a.dep b.dep ≤ 64 ∧ a.alk b = true := by
  unfold cmpOk at h
  rw [Bool.and_eq_true, Bool.and_eq_true, Bool.and_eq_true, decide_eq_true_eq] at h
  exact ⟨h.1.1.1, h.1.1.2, h.1.2, h.2⟩
def rCmpP (K : PySem.W.Frag) (k : PyData → PyData → Bool) : R2 := fun x y H Q => ∃ d e : PyData, Dp K H x d ∧ Dp K H y e ∧ PySem.W.alike d e = true ∧ d ≠ .none ∧ min d.depth e.depth ≤ 64 ∧ Q (.bl (k d e)) H
theorem op_ltP (hu : X.A.units + 64 < cLine) : OpR X (compareOp .Lt) (rCmpP X.K fun d e => PySem.W.dataLt d e) := by
  intro pins s σ H x y v u Q I rx ry h
  obtain ⟨d, e, h1, h2, h3, h4, h5, q⟩ := h
  obtain ⟨as, r1⟩ := Dp.reads I d x v h1 rx
  obtain ⟨bs, r2⟩ := Dp.reads I e y u h2 ry
  exact PySem.W.lt_data r1 r2 h3 h4 (by omega) ⟨.bl _, H, I, rfl, q⟩
theorem op_gtP (hu : X.A.units + 64 < cLine) : OpR X (compareOp .Gt) (rCmpP X.K fun d e => PySem.W.dataLt e d) := by
  intro pins s σ H x y v u Q I rx ry h
  obtain ⟨d, e, h1, h2, h3, h4, h5, q⟩ := h
  obtain ⟨as, r1⟩ := Dp.reads I d x v h1 rx
  obtain ⟨bs, r2⟩ := Dp.reads I e y u h2 ry
  exact PySem.W.gt_data r1 r2 h3 h4 (by omega) ⟨.bl _, H, I, rfl, q⟩
theorem op_leP (hu : X.A.units + 64 < cLine) : OpR X (compareOp .LtE) (rCmpP X.K fun d e => !PySem.W.dataLt e d) := by
  intro pins s σ H x y v u Q I rx ry h
  obtain ⟨d, e, h1, h2, h3, h4, h5, q⟩ := h
  obtain ⟨as, r1⟩ := Dp.reads I d x v h1 rx
  obtain ⟨bs, r2⟩ := Dp.reads I e y u h2 ry
  exact PySem.W.le_data r1 r2 h3 h4 (by omega) ⟨.bl _, H, I, rfl, q⟩
theorem op_geP (hu : X.A.units + 64 < cLine) : OpR X (compareOp .GtE) (rCmpP X.K fun d e => !PySem.W.dataLt d e) := by
  intro pins s σ H x y v u Q I rx ry h
  obtain ⟨d, e, h1, h2, h3, h4, h5, q⟩ := h
  obtain ⟨as, r1⟩ := Dp.reads I d x v h1 rx
  obtain ⟨bs, r2⟩ := Dp.reads I e y u h2 ry
  exact PySem.W.ge_data r1 r2 h3 h4 (by omega) ⟨.bl _, H, I, rfl, q⟩
theorem od_cmpk {f : Value → Value → Sem Value} {k : PyData → PyData → Bool} {k' : D → D → Bool} (h : OpR X f (rCmpP X.K k)) (hk : ∀ a b : D, a.lay = true → b.lay = true → k a.py b.py = k' a b) : OpD X f (fun a b => if cmpOk a b = true then some (.bl (k' a b)) else none) := by
  refine ⟨_, h, fun T O H v1 v2 d1 d2 d Q oh r1 r2 e w => ?_⟩
  have e' : (if cmpOk d1 d2 = true then some (D.bl (k' d1 d2)) else none) = some d := e
  split at e'
  · rename_i c
    cases e'
    obtain ⟨l1, l2, dp, al⟩ := cmpOk_of c
    refine ⟨d1.py, d2.py, (r1.dp l1).1, (r2.dp l2).1, py_alk _ _ l1 l2 al, py_none al, by rw [py_dep _ l1, py_dep _ l2]; exact dp, ?_⟩
    rw [hk _ _ l1 l2]
    exact w _ H (Ex.refl H) (.bl _)
  · cases e'
/-- <, >, <=, >= of ints, texts, tuples, lists -/
def dCmp (k : D → D → Bool) (kI : Int → Int → Bool) : D → D → Option D
  | .int i, .int j => some (.bl (kI i j))
  | a, b => if cmpOk a b = true then some (.bl (k a b)) else none
theorem cmp_merge {f : Value → Value → Sem Value} {k : D → D → Bool} {kI : Int → Int → Bool} (h1 : OpD X f (onII fun i j => some (.bl (kI i j)))) (h2 : OpD X f (fun a b => if cmpOk a b = true then some (.bl (k a b)) else none)) : OpD X f (dCmp k kI) := by
  refine (h1.or h2).imp fun a b d e => ?_
  unfold dCmp at e
  split at e
  · cases e; rfl
  · show Option.or (onII _ a b) _ = _
    cases a <;> cases b <;> first | (rename_i hx; exact absurd rfl (hx _ _ rfl)) | exact e
def dLT := dCmp D.ltb (fun i j => decide (i < j))
def dGT := dCmp (fun a b => b.ltb a) (fun i j => decide (j < i))
def dLE := dCmp (fun a b => !b.ltb a) (fun i j => decide (i ≤ j))
def dGE := dCmp (fun a b => !a.ltb b) (fun i j => decide (j ≤ i))
theorem od_LT (hu : X.A.units + 64 < cLine) : OpD X (compareOp .Lt) dLT := cmp_merge od_lt (od_cmpk (op_ltP hu) fun a b ha hb => py_lt ha hb)
theorem od_GT (hu : X.A.units + 64 < cLine) : OpD X (compareOp .Gt) dGT := cmp_merge od_gt (od_cmpk (op_gtP hu) fun a b ha hb => py_lt hb ha)
theorem od_LE (hu : X.A.units + 64 < cLine) : OpD X (compareOp .LtE) dLE := cmp_merge od_le (od_cmpk (op_leP hu) fun a b ha hb => by rw [py_lt hb ha])
theorem od_GE (hu : X.A.units + 64 < cLine) : OpD X (compareOp .GtE) dGE := cmp_merge od_ge (od_cmpk (op_geP hu) fun a b ha hb => by rw [py_lt ha hb])

/-! ### sum of a tuple -/
def rSumT (K : PySem.W.Frag) : List V → Hp → VK → Prop := fun vs H Q => ∃ (a : Addr) (ns : List Int), vs = [V.ref a] ∧ SqT K H a (ns.map V.int) ∧ Q (.int ns.sum) H
theorem preSum_list {f : Nat → Int} : ∀ (ns : List Int) , (∀ i, i < ns.length → f i = ns.getD i 0) → preSum f ns.length = ns.sum := by
  have go : ∀ (ns : List Int) (k : Nat), k ≤ ns.length → (∀ i, i < ns.length → f i = ns.getD i 0) → preSum f k = (ns.take k).sum := by
    intro ns k
    induction k with
    | zero => intro _ _; simp [preSum]
    | succ k ih =>
      intro hk hf
      have e : preSum f (k + 1) = preSum f k + f k := rfl
      rw [e, ih (by omega) hf, hf k (by omega), List.take_add_one, List.sum_append]
      rw [List.getD_eq_getElem?_getD, List.getElem?_eq_getElem (by omega)]
      simp
  intro ns hf
  rw [go ns _ (Nat.le_refl _) hf, List.take_length]
theorem cr_sumT (hc : X.calm = true) : CallR X (.builtin "sum") (rSumT X.K) := by
  intro pins s σ H vs us Q I r h
  obtain ⟨a, ns, rfl, hs, q⟩ := h
  obtain ⟨its, rv, hl, _⟩ := I.tuple hs
  rw [Vals.ref1 r]
  have hi := rv.ints
  have hlen : its.toArray.size = ns.length := by rw [List.size_toArray]; exact hi.length
  have hl' : s.heap.IsTuple a its.toArray := by
    obtain ⟨o, ho, hcls, n, hd⟩ := hl
    exact ⟨o, ho, hcls, n, hd⟩
  refine call_sum_walkAnyS (PySem.W.iter_tupleW (A := X.A.in1) (I.ok.hd hc) hl' fun s₂ e W st hfp hw hk => ?_)
  refine ⟨_, _, _, _, _, _, _, fun i => ns.getD i 0, rfl, W, st, hfp, fun i v hv => ?_, fun s' t' m => ?_⟩
  · have hv' : its[i]? = some v := by simpa using hv
    exact hi.int_at i v hv'
  · obtain ⟨h', tk, rfl, hk'⟩ := PySem.W.moved_old e rfl m
    rw [hlen, preSum_list ns fun i _ => rfl]
    exact ⟨.int _, H, I.kept hk', ⟨_, rfl⟩, q⟩
end
end EV

namespace PySem
open Sem (wp)
open PySem.W PySem.SeqAt PyProof.Rows
section
variable {prog : Program} {w : World} {A : Around} {E : Value → Shared → Prop} {s : Shared}
/-- min(a, b) over what is walked -/
theorem ev_call_min_twoH {a b : Value} {Q : Value → Shared → Prop}
    (h : wpAny (model prog w) A.in1 (pyIter (.ref s.heap.objs.size)) (fun it s₂ => ∃ I fp wr G n P St H bt, it = .ref I ∧ WalksS prog w A.in1 I fp wr G n P St ∧ St 0 s₂ ∧ (∀ b ∈ fp, b < s₂.heap.objs.size) ∧ 0 < n ∧
      (∀ b o, H.get? b = some o → b ∉ wr) ∧ (∀ b o, H.get? b = some o → s₂.heap.get? b = some o) ∧ CmpIn prog w A.in1 .Lt H P bt ∧ ∀ v s', P (argBest bt (n - 1)) v → Moved wr G s₂ s' → Q v s') E
      { s with heap := s.heap.push { cls := .type "tuple", data := .seq #[a, b] } }) :
    wpAny (model prog w) A (call (.builtin "min") [a, b]) Q E s := by
  have hname : (toString "min" ++ toString ".loop" : String) = "min.loop" := by decide
  refine call_function_tree F.kind_min F.plain_min F.entry_min (F.args_min2 _ _) ?_
  show wpAny _ A.in1 (Builtin.Builtins.bindParams "min" ["key", "default"] 0 ⟨[], []⟩ >>= _) _ _ s
  refine wpAny_bind (wpAny_of_eq (show Builtin.Builtins.bindParams "min" ["key", "default"] 0 ⟨[], []⟩ = pure [none, none] from rfl) ?_)
  show wpAny _ A.in1 (newTuple [a, b] >>= _) _ _ s
  refine wpAny_bind (wpAny_newObj_type ?_)
  refine wpAny_bind (wpAny_mono h (fun it s₂ h₂ => ?_) fun _ _ e => e)
  obtain ⟨I, fp, wr, G, n, P, St, H, bt, rfl, W, hst, hfp, hn, hw, hkeep, hcmp, hQ⟩ := h₂
  refine wpAny_bind (wpAny_newObj_type ?_)
  have hSf : s₂.heap.objs.size ∉ fp := fun hm => Nat.lt_irrefl _ (hfp _ hm)
  rw [hname]
  refine wpAny_pure ⟨plainId_quiet F.plain_min_loop _, codeAny_min_loop_firstH W H hw bt hcmp s₂.heap.objs.size hSf (fresh_in hkeep) _ hn (fun b o e => Heap.get?_push_of_some _ (hkeep b o e)) (W.frame 0 s₂ _ s₂.toks hst (Nat.le_refl _) fun b _ o e => Heap.get?_push_of_some _ e) (Heap.get?_push_size _ rfl) fun v s' hP hm => ?_⟩
  exact hQ v s' hP (Moved.drop_new (tk := s₂.toks) hm (Nat.le_refl _))
end
end PySem
namespace EV
open PySem PySem.Spec L2 SX
open PyProof.Rows hiding St
section
variable {X : Cx} {S : ES} {W : WX} {pos : Pos}
abbrev btP (ps : List PyData) : Nat → Nat → Bool := fun i j => PySem.W.dataLt (ps.getD i .none) (ps.getD j .none)
abbrev btPm (ps : List PyData) : Nat → Nat → Bool := fun i j => PySem.W.dataLt (ps.getD j .none) (ps.getD i .none)
def rBestP (K : PySem.W.Frag) (bt : List PyData → Nat → Nat → Bool) : List V → Hp → VK → Prop := fun vs H Q => ∃ (a : Addr) (ys : List V) (ps : List PyData), vs = [V.ref a] ∧ (SqL K H a ys ∨ SqT K H a ys) ∧ DpAll K H ys ps ∧ PySem.W.AlikeAll ps ∧ PyData.depthAll ps ≤ 64 ∧ 0 < ys.length ∧
  ∀ v, ys[argBest (bt ps) (ys.length - 1)]? = some v → Q v H
theorem vals_at : ∀ {vs : List V} {us : List Value} {i : Nat} {u : Value}, Vals vs us → us[i]? = some u → ∃ v, vs[i]? = some v ∧ RelV v u
  | _, _, _, _, .nil, h => by simp at h
  | _, _, 0, _, .cons r _, h => by simp at h; subst h; exact ⟨_, rfl, r⟩
  | _, _, i + 1, _, .cons _ r, h => by
    obtain ⟨v, h1, h2⟩ := vals_at (i := i) r (by simpa using h)
    exact ⟨v, by simpa using h1, h2⟩
theorem cr_minP (hc : X.calm = true) (hu : X.A.units + 65 < cLine) : CallR X (.builtin "min") (rBestP X.K btP) := by
  intro pins s σ H vs us Q I r h
  obtain ⟨a, ys, ps, rfl, hs, hd, hal, hdp, hn, q⟩ := h
  rw [Vals.ref1 r]
  rcases hs with hs | hs
  · obtain ⟨its, rv, hl, _⟩ := I.list hs
    obtain ⟨as, hr⟩ := Dp.readsAll I ps ys its hd rv
    have hlen : its.toArray.size = ys.length := by rw [List.size_toArray]; exact rv.length.symm
    refine call_min_walkH (PySem.W.iter_listW (A := X.A.in1) (I.ok.hd hc) hl.isList fun s₂ e W st hfp hw hk => ?_)
    refine ⟨_, _, _, _, _, _, _, s.heap, _, rfl, W, st, hfp, by omega, hw, hk, PySem.W.cmpIn_lt (A := X.A.in1) (vs := its.toArray) hr hal (by show X.A.units + 1 + _ < _; omega), fun v s' hP m => ?_⟩
    obtain ⟨h', tk, rfl, hk'⟩ := PySem.W.moved_old e rfl m
    rw [hlen] at hP
    obtain ⟨y, h1, h2⟩ := vals_at rv (show its[argBest (btP ps) (ys.length - 1)]? = some v by rw [← List.getElem?_toArray]; exact hP)
    exact ⟨y, H, I.kept hk', h2, q y h1⟩
  · obtain ⟨its, rv, hl, _⟩ := I.tuple hs
    obtain ⟨as, hr⟩ := Dp.readsAll I ps ys its hd rv
    have hlen : its.toArray.size = ys.length := by rw [List.size_toArray]; exact rv.length.symm
    have hl' : s.heap.IsTuple a its.toArray := by
      obtain ⟨o, ho, hcls, n, hd⟩ := hl
      exact ⟨o, ho, hcls, n, hd⟩
    refine call_min_walkH (PySem.W.iter_tupleW (A := X.A.in1) (I.ok.hd hc) hl' fun s₂ e W st hfp hw hk => ?_)
    refine ⟨_, _, _, _, _, _, _, s.heap, _, rfl, W, st, hfp, by omega, hw, hk, PySem.W.cmpIn_lt (A := X.A.in1) (vs := its.toArray) hr hal (by show X.A.units + 1 + _ < _; omega), fun v s' hP m => ?_⟩
    obtain ⟨h', tk, rfl, hk'⟩ := PySem.W.moved_old e rfl m
    rw [hlen] at hP
    obtain ⟨y, h1, h2⟩ := vals_at rv (show its[argBest (btP ps) (ys.length - 1)]? = some v by rw [← List.getElem?_toArray]; exact hP)
    exact ⟨y, H, I.kept hk', h2, q y h1⟩
theorem cr_maxP (hc : X.calm = true) (hu : X.A.units + 65 < cLine) : CallR X (.builtin "max") (rBestP X.K btPm) := by
  intro pins s σ H vs us Q I r h
  obtain ⟨a, ys, ps, rfl, hs, hd, hal, hdp, hn, q⟩ := h
  rw [Vals.ref1 r]
  rcases hs with hs | hs
  · obtain ⟨its, rv, hl, _⟩ := I.list hs
    obtain ⟨as, hr⟩ := Dp.readsAll I ps ys its hd rv
    have hlen : its.toArray.size = ys.length := by rw [List.size_toArray]; exact rv.length.symm
    refine call_max_walkH (PySem.W.iter_listW (A := X.A.in1) (I.ok.hd hc) hl.isList fun s₂ e W st hfp hw hk => ?_)
    refine ⟨_, _, _, _, _, _, _, s.heap, _, rfl, W, st, hfp, by omega, hw, hk, PySem.W.cmpIn_gt (A := X.A.in1) (vs := its.toArray) hr hal (by show X.A.units + 1 + _ < _; omega), fun v s' hP m => ?_⟩
    obtain ⟨h', tk, rfl, hk'⟩ := PySem.W.moved_old e rfl m
    rw [hlen] at hP
    obtain ⟨y, h1, h2⟩ := vals_at rv (show its[argBest (btPm ps) (ys.length - 1)]? = some v by rw [← List.getElem?_toArray]; exact hP)
    exact ⟨y, H, I.kept hk', h2, q y h1⟩
  · obtain ⟨its, rv, hl, _⟩ := I.tuple hs
    obtain ⟨as, hr⟩ := Dp.readsAll I ps ys its hd rv
    have hlen : its.toArray.size = ys.length := by rw [List.size_toArray]; exact rv.length.symm
    have hl' : s.heap.IsTuple a its.toArray := by
      obtain ⟨o, ho, hcls, n, hd⟩ := hl
      exact ⟨o, ho, hcls, n, hd⟩
    refine call_max_walkH (PySem.W.iter_tupleW (A := X.A.in1) (I.ok.hd hc) hl' fun s₂ e W st hfp hw hk => ?_)
    refine ⟨_, _, _, _, _, _, _, s.heap, _, rfl, W, st, hfp, by omega, hw, hk, PySem.W.cmpIn_gt (A := X.A.in1) (vs := its.toArray) hr hal (by show X.A.units + 1 + _ < _; omega), fun v s' hP m => ?_⟩
    obtain ⟨h', tk, rfl, hk'⟩ := PySem.W.moved_old e rfl m
    rw [hlen] at hP
    obtain ⟨y, h1, h2⟩ := vals_at rv (show its[argBest (btPm ps) (ys.length - 1)]? = some v by rw [← List.getElem?_toArray]; exact hP)
    exact ⟨y, H, I.kept hk', h2, q y h1⟩
def rMin2P (K : PySem.W.Frag) : List V → Hp → VK → Prop := fun vs H Q => ∃ (x y : V) (d e : PyData), vs = [x, y] ∧ Dp K H x d ∧ Dp K H y e ∧ PySem.W.AlikeAll [d, e] ∧ PyData.depthAll [d, e] ≤ 64 ∧ Q (if PySem.W.dataLt e d = true then y else x) H
theorem cr_min2P (hc : X.calm = true) (hu : X.A.units + 65 < cLine) : CallR X (.builtin "min") (rMin2P X.K) := by
  intro pins s σ H vs us Q I r h
  obtain ⟨x, y, d, e, rfl, hx, hy, hal, hdp, q⟩ := h
  obtain ⟨u, w', rfl, r1, r2⟩ := vals2 r
  obtain ⟨as, hr⟩ := Dp.readsAll I [d, e] [x, y] [u, w'] (.cons hx (.cons hy .nil)) (.cons r1 (.cons r2 .nil))
  have hT : (s.heap.push { cls := .type "tuple", data := .seq #[u, w'] }).IsTuple s.heap.objs.size #[u, w'] := ⟨_, Heap.get?_push_size _ rfl, rfl, 0, rfl⟩
  have kp : ∀ b o, s.heap.get? b = some o → (s.heap.push { cls := .type "tuple", data := .seq #[u, w'] }).get? b = some o := fun b o e => Heap.get?_push_of_some _ e
  have hr' : ReadsAll (s.heap.push { cls := .type "tuple", data := .seq #[u, w'] }) [u, w'] [d, e] as := ReadsAll.keeps kp hr
  refine ev_call_min_twoH (PySem.W.iter_tupleW (s := { s with heap := s.heap.push { cls := .type "tuple", data := .seq #[u, w'] } }) (A := X.A.in1) (I.ok.hd hc) hT fun s₂ e2 W st hfp hw hk => ?_)
  refine ⟨_, _, _, _, _, _, _, (s.heap.push { cls := .type "tuple", data := .seq #[u, w'] }), _, rfl, W, st, hfp, by simp, hw, hk, PySem.W.cmpIn_lt (s := { s with heap := s.heap.push { cls := .type "tuple", data := .seq #[u, w'] } }) (A := X.A.in1) (vs := #[u, w']) hr' hal (by show X.A.units + 1 + _ < _; omega), fun v s' hP m => ?_⟩
  obtain ⟨h', tk, rfl, hk'⟩ := PySem.W.moved_old e2 rfl m
  have ik : Inv X pins σ H { s with heap := h', toks := tk } := I.kept fun b o eb => hk' b o (kp b o eb)
  have hv : (#[u, w'] : Array Value)[argBest (btP [d, e]) 1]? = some v := hP
  by_cases hb : PySem.W.dataLt e d = true
  · have ea : argBest (btP [d, e]) 1 = 1 := if_pos hb
    rw [ea] at hv
    obtain rfl : w' = v := by simpa using hv
    rw [if_pos hb] at q
    exact ⟨y, H, ik, r2, q⟩
  · have ea : argBest (btP [d, e]) 1 = 0 := if_neg hb
    rw [ea] at hv
    obtain rfl : u = v := by simpa using hv
    rw [if_neg hb] at q
    exact ⟨x, H, ik, r1, q⟩

/-! ### by data -/
def alkAll (ds : List D) : Bool := layL ds && decide (depL ds ≤ 64) && ds.all fun a => ds.all fun b => a.alk b
theorem alkAll_of {ds : List D} (h : alkAll ds = true) : layL ds = true ∧ depL ds ≤ 64 ∧ ∀ a, a ∈ ds → ∀ b, b ∈ ds → a.alk b = true := by
  unfold alkAll at h
  rw [Bool.and_eq_true, Bool.and_eq_true, decide_eq_true_eq, List.all_eq_true] at h
  exact ⟨h.1.1, h.1.2, fun a ha b hb => List.all_eq_true.mp (h.2 a ha) b hb⟩
theorem layL_mem : ∀ {ds : List D}, layL ds = true → ∀ d, d ∈ ds → d.lay = true
  | [], _, d, h => nomatch h
  | x :: xs, h, d, hm => by
    have h' : (x.lay && layL xs) = true := h
    rw [Bool.and_eq_true] at h'
    rcases List.mem_cons.mp hm with rfl | hm
    · exact h'.1
    · exact layL_mem h'.2 d hm
theorem alkAll_py {ds : List D} (h : alkAll ds = true) : PySem.W.AlikeAll (pyL ds) ∧ PyData.depthAll (pyL ds) ≤ 64 := by
  obtain ⟨h1, h2, h3⟩ := alkAll_of h
  refine ⟨⟨fun x hx y hy => ?_, fun x hx => ?_⟩, by rw [pyL_dep _ h1]; exact h2⟩
  · rw [pyL_map] at hx hy
    obtain ⟨a, ha, rfl⟩ := List.mem_map.mp hx
    obtain ⟨b, hb, rfl⟩ := List.mem_map.mp hy
    exact py_alk a b (layL_mem h1 a ha) (layL_mem h1 b hb) (h3 a ha b hb)
  · rw [pyL_map] at hx
    obtain ⟨a, ha, rfl⟩ := List.mem_map.mp hx
    exact py_none (h3 a ha a ha)
def bestD (f : D → D → Bool) (x : D) (xs : List D) : D := xs.foldl (fun a y => if f y a then y else a) x
theorem argBest_congr {f g : Nat → Nat → Bool} {n : Nat} (h : ∀ i j, i ≤ n → j ≤ n → f i j = g i j) : argBest f n = argBest g n ∧ argBest f n ≤ n := by
  induction n with
  | zero => exact ⟨rfl, Nat.le_refl _⟩
  | succ n ih =>
    obtain ⟨e, l⟩ := ih fun i j hi hj => h i j (by omega) (by omega)
    have eq1 : argBest f (n + 1) = if f (n + 1) (argBest f n) = true then n + 1 else argBest f n := rfl
    have eq2 : argBest g (n + 1) = if g (n + 1) (argBest g n) = true then n + 1 else argBest g n := rfl
    rw [eq1, eq2, ← e, h (n + 1) (argBest f n) (Nat.le_refl _) (by omega)]
    refine ⟨rfl, ?_⟩
    split <;> omega
theorem best_at {f : D → D → Bool} {p : PyData → PyData → Bool} {x : D} {xs : List D} (h1 : layL (x :: xs) = true) (hf : ∀ a b : D, a.lay = true → b.lay = true → p a.py b.py = f a b) :
    (x :: xs)[argBest (fun i j => p ((pyL (x :: xs)).getD i .none) ((pyL (x :: xs)).getD j .none)) xs.length]? = some (bestD f x xs) := by
  have hg : ∀ i, i ≤ xs.length → ((pyL (x :: xs)).getD i .none) = ((x :: xs).getD i .non).py ∧ ((x :: xs).getD i .non).lay = true := fun i hi => by
    have hi' : i < (x :: xs).length := by rw [List.length_cons]; omega
    have e : (x :: xs)[i]? = some ((x :: xs)[i]) := List.getElem?_eq_getElem hi'
    rw [pyL_map, List.getD_eq_getElem?_getD, List.getD_eq_getElem?_getD, List.getElem?_map, e]
    exact ⟨rfl, layL_mem h1 _ (List.getElem_mem hi')⟩
  have c := argBest_congr (f := fun i j => p ((pyL (x :: xs)).getD i .none) ((pyL (x :: xs)).getD j .none)) (g := fun i j => f ((x :: xs).getD i .non) ((x :: xs).getD j .non)) (n := xs.length) fun i j hi hj => by
    show p _ _ = f _ _
    rw [(hg i hi).1, (hg j hj).1, hf _ _ (hg i hi).2 (hg j hj).2]
  obtain ⟨b1, b2⟩ := PySem.W.argBest_fold f D.non x xs xs.length (Nat.le_refl _)
  rw [List.take_length] at b2
  rw [c.1]
  have hb : argBest (fun i j => f ((x :: xs).getD i .non) ((x :: xs).getD j .non)) xs.length < (x :: xs).length := by rw [List.length_cons]; omega
  unfold bestD
  rw [← b2, List.getD_eq_getElem?_getD, List.getElem?_eq_getElem hb]
  rfl
def seqD : D → Option (List D)
  | .lst xs => some xs
  | .tup xs => some xs
  | _ => none
def bBest (f : D → D → Bool) : List D → Option D
  | [d] => match seqD d with
    | some (x :: xs) => if alkAll (x :: xs) = true then some (bestD f x xs) else none
    | _ => none
  | _ => none
theorem RT.seq {K : PySem.W.Frag} {T : Nat → Option Addr} {O : Addr → Prop} {H : Hp} {v : V} {d : D} {ds : List D} (h : RT K T O H v d) (e : seqD d = some ds) : ∃ a vs, v = .ref a ∧ (SqL K H a vs ∨ SqT K H a vs) ∧ Reps K T O H vs ds := by
  cases d <;> first | (cases e; done) | skip
  · cases e
    obtain ⟨a, vs, rfl, h1, h2⟩ := h.tup
    exact ⟨a, vs, rfl, .inr h1.sq, h2⟩
  · cases e
    obtain ⟨a, vs, rfl, h1, h2⟩ := h.lst
    exact ⟨a, vs, rfl, .inl (.inl h1), h2⟩
theorem cd_best {id : String} {f : D → D → Bool} {p : PyData → PyData → Bool} (hf : ∀ a b : D, a.lay = true → b.lay = true → p a.py b.py = f a b) (h : CallR X (.builtin id) (rBestP X.K fun ps i j => p (ps.getD i .none) (ps.getD j .none))) : CalD X (.builtin id) (bBest f) := by
  refine ⟨_, h, fun T O H vs ds d Q oh rt e w => ?_⟩
  unfold bBest at e
  split at e
  · rename_i d0
    split at e
    · rename_i x xs hs
      split at e
      · rename_i ha
        cases e
        obtain ⟨v, rfl, h⟩ := rt.one
        obtain ⟨a, ys, rfl, h1, h2⟩ := h.seq hs
        have hl := h2.length
        rw [List.length_cons] at hl
        obtain ⟨a1, a2⟩ := alkAll_py ha
        have ba := best_at (p := p) (f := f) (alkAll_of ha).1 hf
        refine ⟨a, ys, pyL (x :: xs), rfl, h1, (Reps.dp _ _ h2 (alkAll_of ha).1).1, a1, a2, by omega, fun v hv => ?_⟩
        rw [hl] at hv
        exact w v H (Ex.refl H) (h2.get' hv ba)
      · cases e
    · cases e
  · cases e
def bMin1 := bBest D.ltb
def bMax1 := bBest (fun a b => b.ltb a)
theorem cd_min1 (hc : X.calm = true) (hu : X.A.units + 65 < cLine) : CalD X (.builtin "min") bMin1 := cd_best (p := fun a b => PySem.W.dataLt a b) (fun a b ha hb => py_lt ha hb) (cr_minP hc hu)
theorem cd_max1 (hc : X.calm = true) (hu : X.A.units + 65 < cLine) : CalD X (.builtin "max") bMax1 := cd_best (p := fun a b => PySem.W.dataLt b a) (fun a b ha hb => py_lt hb ha) (cr_maxP hc hu)
def D.top : D → Bool
  | .lst _ => false
  | .dk _ => false
  | .dt _ => false
  | _ => true
theorem RT.rep {K : PySem.W.Frag} {T : Nat → Option Addr} {O : Addr → Prop} {H : Hp} {v : V} {d : D} (h : RT K T O H v d) (e : d.top = true) : Rep K T O H v d := by
  rcases h with h | ⟨a, rfl, h⟩
  · exact h
  · cases d <;> first | exact h.elim | cases e
def bMin2D : List D → Option D
  | [d, e] => if (d.top && e.top && alkAll [d, e]) = true then some (if e.ltb d = true then e else d) else none
  | _ => none
theorem cd_min2D (hc : X.calm = true) (hu : X.A.units + 65 < cLine) : CalD X (.builtin "min") bMin2D := by
  refine ⟨_, cr_min2P hc hu, fun T O H vs ds d Q oh rt e w => ?_⟩
  unfold bMin2D at e
  split at e
  · rename_i d1 d2
    split at e
    · rename_i ha
      cases e
      rw [Bool.and_eq_true, Bool.and_eq_true] at ha
      obtain ⟨⟨t1, t2⟩, ha⟩ := ha
      obtain ⟨v, v', rfl, h, h'⟩ := rt.two
      obtain ⟨a1, a2⟩ := alkAll_py ha
      have l1 := layL_mem (alkAll_of ha).1 d1 (by simp)
      have l2 := layL_mem (alkAll_of ha).1 d2 (by simp)
      refine ⟨v, v', d1.py, d2.py, rfl, (h.dp l1).1, (h'.dp l2).1, a1, a2, ?_⟩
      rw [py_lt l2 l1]
      by_cases hb : d2.ltb d1 = true
      · rw [if_pos hb] at w ⊢
        exact w v' H (Ex.refl H) (h'.rep t2)
      · rw [if_neg hb] at w ⊢
        exact w v H (Ex.refl H) (h.rep t1)
    · cases e
  · cases e
def bSumT : List D → Option D
  | [.tup xs] => (dInts xs).map fun ns => .int ns.sum
  | _ => none
theorem cd_sumT (hc : X.calm = true) : CalD X (.builtin "sum") bSumT := by
  refine ⟨_, cr_sumT hc, fun T O H vs ds d Q oh rt e w => ?_⟩
  unfold bSumT at e
  split at e
  · obtain ⟨bs, e1, rfl⟩ := map_some' e
    obtain rfl := ints_eq e1
    obtain ⟨v, rfl, h⟩ := rt.one
    obtain ⟨a, vs, rfl, h1, h2⟩ := h.tup
    obtain rfl := h2.ints
    exact ⟨a, bs, rfl, h1.sq, w _ H (Ex.refl H) (.int _)⟩
  · cases e
def bSumA (ds : List D) : Option D := (bSum ds).or (bSumT ds)
theorem cd_sumA (hc : X.calm = true) : CalD X (.builtin "sum") bSumA := (cd_sum hc).or (cd_sumT hc)
end
end EV

namespace EV
open PySem PySem.Spec L2 SX
open PyProof.Rows hiding St
section
variable {X : Cx} {S : ES} {W : WX} {pos p q : Pos} {a b e : Expr} {fa fb fe : SE}

/-! ### isinstance -/
/-- 0 int, 1 bool, 2 str, 3 tuple, 4 list, 5 dict -/
def tyName : Nat → String
  | 0 => "int" | 1 => "bool" | 2 => "str" | 3 => "tuple" | 4 => "list" | _ => "dict"
def isD (k : Nat) : D → Option Bool
  | .non => some false
  | .bl _ => some (k == 0 || k == 1)
  | .int _ => some (k == 0)
  | .str _ => some (k == 2)
  | .tup _ => some (k == 3)
  | .lst _ => some (k == 4)
  | .dk _ => some (k == 5)
  | _ => none
theorem tyx_lst {K : PySem.W.Frag} {H : Hp} {a : Addr} {vs : List V} (h : Rd H a (.lst vs)) : TyX K H (.ref a) (.type "list") := by
  rcases h with h | ⟨o, h⟩
  · exact .base (.lst h)
  · exact .base (.frz h)
theorem tyx_tup {K : PySem.W.Frag} {O : Addr → Prop} {H : Hp} {a : Addr} {vs : List V} (h : ShT K O H a vs) : TyX K H (.ref a) (.type "tuple") := by
  rcases h with ⟨_, h, _⟩ | ⟨⟨o, its, n, h1, h2, _⟩, _⟩
  · rcases h with h | ⟨o, h⟩
    · exact .base (.tup h)
    · exact .fTuple h
  · exact .kTuple h1 h2
theorem tyx_dk {K : PySem.W.Frag} {H : Hp} {a : Addr} {vs : List (Key × V)} (h : Rd H a (.dK vs)) : TyX K H (.ref a) (.type "dict") := by
  rcases h with h | ⟨o, h⟩
  · exact .base (.dK h)
  · exact .fDict h
theorem isi_ty {K : PySem.W.Frag} {T : Nat → Option Addr} {O : Addr → Prop} {H : Hp} {v : V} {d : D} {k : Nat} {r : Bool} (hk : k ≤ 5) (h : RT K T O H v d) (e : isD k d = some r) : ∃ t, TyX K H v (.type t) ∧ kitB t (tyName k) = some r := by
  have six : k = 0 ∨ k = 1 ∨ k = 2 ∨ k = 3 ∨ k = 4 ∨ k = 5 := by omega
  cases d with
  | non => cases e; rw [h.non]; refine ⟨_, .base .non, ?_⟩; rcases six with rfl | rfl | rfl | rfl | rfl | rfl <;> decide +kernel
  | bl b => cases e; rw [h.bl]; refine ⟨_, .base (.bl b), ?_⟩; rcases six with rfl | rfl | rfl | rfl | rfl | rfl <;> decide +kernel
  | int b => cases e; rw [h.int]; refine ⟨_, .base (.int b), ?_⟩; rcases six with rfl | rfl | rfl | rfl | rfl | rfl <;> decide +kernel
  | str b => cases e; rw [h.str]; refine ⟨_, .base (.str _), ?_⟩; rcases six with rfl | rfl | rfl | rfl | rfl | rfl <;> decide +kernel
  | tup b => cases e; obtain ⟨a, vs, rfl, h1, _⟩ := h.tup; refine ⟨_, tyx_tup h1, ?_⟩; rcases six with rfl | rfl | rfl | rfl | rfl | rfl <;> decide +kernel
  | lst b => cases e; obtain ⟨a, vs, rfl, h1, _⟩ := h.lst; refine ⟨_, tyx_lst h1, ?_⟩; rcases six with rfl | rfl | rfl | rfl | rfl | rfl <;> decide +kernel
  | dk b =>
    cases e
    have : ∃ a vs, v = .ref a ∧ Rd H a (.dK vs) := by
      rcases h with h | ⟨a, rfl, h⟩
      · cases h with
        | dk h0 h1 h2 => exact ⟨_, _, rfl, h1⟩
      · obtain ⟨vs, h1, h2⟩ := h
        exact ⟨a, vs, rfl, .inl h1⟩
    obtain ⟨a, vs, rfl, h1⟩ := this
    refine ⟨_, tyx_dk h1, ?_⟩; rcases six with rfl | rfl | rfl | rfl | rfl | rfl <;> decide +kernel
  | _ => cases e
def eIsi (k : Nat) (f : SE) : SE := fun ρ => f ρ >>= fun r => deref r.2 r.1 >>= fun d => ofOpt (isD k d) >>= fun b => .ok (.val (.bl b), r.2)
theorem ev_isi (k : Nat) {x : Str} (hk : k ≤ 5) (hg : Gl X "isinstance") (hm : X.mg "isinstance" = none) (hg2 : Gl X x) (hm2 : X.mg x = none) (hv : bootBuiltins x = some (.type (tyName k))) (he : EvE X S W e fe) (hn : x ≠ "__name__" := by decide) (hd : (x == ("__debug__" : Str)) = false := by decide)
    (hs : starEach [e, .Name x q] X.env = (false, eval e X.env) :: starEach [.Name x q] X.env := by rfl) (hpl : (backTo pos (starEach [.Name x q] X.env)).any (·.1) = false := by rfl) : EvE X S W (.Call (.Name "isinstance" p) [e, .Name x q] [] pos) (eIsi k fe) := by
  obtain ⟨t, pt, qt⟩ := he
  have pv : PE X (.Name x q) (tC (.ty (tyName k))) := pe_bltn hg2 hm2 hv rfl hn hd
  refine ⟨_, pe_callB call_isi hg hm (by decide +kernel) (pa_cons pt (pa_cons pv pa_nil) hs) (he := hs) (hpl := hpl), fun C σ H ρ Q E w => ?_⟩
  refine qt C σ H ρ _ E ((Wp.bind w).mono (fun _ _ h => h) fun r1 _ w1 v1 H1 E1 A1 R1 => ?_)
  obtain ⟨d, e1, w2⟩ := deref_wp w1
  obtain ⟨r, e2, w3⟩ := opt_wp w2
  obtain ⟨ty, h1, h2⟩ := isi_ty hk (R1.rt E1 e1) e2
  exact ⟨v1, .ty (tyName k), .type ty, .type (tyName k), r, rfl, .ty _, h1, kit_ty h2, w3 _ H1 E1 A1 (Rep.bl r)⟩

/-! ### str(int), join -/
def bStr : List D → Option D
  | [.int i] => if 0 ≤ i ∧ i < 1000000 then some (.str (TL.numL i.toNat)) else none
  | [.str s] => some (.str s)
  | _ => none
theorem numL_ok (n : Nat) : okS (TL.numL n) := fun c hc => by
  have := TL.numL_digits n c hc
  omega
theorem cd_str : CalD X (.type "str") bStr := by
  refine ⟨_, CallR.or call_str_int SkE.call_str_str, fun T O H vs ds d Q oh rt e w => ?_⟩
  unfold bStr at e
  split at e
  · rename_i i
    split at e
    · rename_i hi
      cases e
      obtain ⟨v, rfl, h⟩ := rt.one
      refine .inl ⟨i, by rw [h.int], ?_, ?_⟩
      · have : i.natAbs < 2 ^ 1920 := by
          have : (1000000 : Nat) < 2 ^ 1920 := by decide +kernel
          omega
        by_cases z : i.natAbs = 0
        · rw [z]; decide
        · exact (Nat.log2_lt z).mpr this
      · have e1 : (((i.toNat : Nat) : Int)) = i := by omega
        have := SX.num_S i.toNat
        rw [e1] at this
        show Q (.str (Str.ofString (toString i))) H
        rw [this]
        exact w _ H (Ex.refl H) (.str _ (numL_ok _))
    · cases e
  · cases e
    obtain ⟨v, rfl, h⟩ := rt.one
    exact .inr ⟨_, by rw [h.str], w _ H (Ex.refl H) (.str _ h.okS)⟩
  · cases e
def sizeJ (a : List Nat) (ss : List (List Nat)) : Nat := (ss.map List.length).sum + ss.length * a.length
def dJoin (a d : D) : Option D := match a with
  | .str s => (seqD d).bind fun xs => (dStrs xs).bind fun ss => if sizeJ s ss ≤ LIM then some (.str (TL.joinL s ss)) else none
  | _ => none
theorem joinL_ok {s : List Nat} (hs : okS s) : ∀ {ss : List (List Nat)}, (∀ x, x ∈ ss → okS x) → okS (TL.joinL s ss)
  | [], _ => fun c hc => nomatch hc
  | [p], h => h p (by simp)
  | p :: q :: r, h => by
    show okS (p ++ (s ++ TL.joinL s (q :: r)))
    exact okS_append (h p (by simp)) (okS_append hs (joinL_ok hs fun x hx => h x (List.mem_cons_of_mem _ hx)))
theorem map_S_len (ss : List (List Nat)) : ((ss.map SX.S).map (·.length)).sum = (ss.map List.length).sum := by
  rw [List.map_map]
  congr 1
def asS : DV → Option (List Nat)
  | .val (.str s) => some s
  | _ => none
theorem RV.str {C : EC} {σ : St} {H : Hp} {ρ : Env} {v : V} {x : DV} {s : List Nat} (h : RV X.K S C σ H ρ v x) (e : asS x = some s) : v = .str (SX.S s) ∧ okS s := by
  cases x with
  | val d =>
    cases d with
    | str k' =>
      have e' : some k' = some s := e
      cases e'
      have h' : Rep X.K S.T (C.O S σ ρ) H v (.str s) := h
      cases h' with
      | str _ o => exact ⟨rfl, o⟩
    | _ => cases e
  | plc i => cases e
def eJoin (f g : SE) : SE := fun ρ => f ρ >>= fun r => ofOpt (asS r.1) >>= fun s => g r.2 >>= fun r2 => deref r2.2 r2.1 >>= fun d => ofOpt (dJoin (.str s) d) >>= fun d' => .ok (.val d', r2.2)
theorem dJoin_some {s : List Nat} {d d' : D} (h : dJoin (.str s) d = some d') : ∃ xs ss, seqD d = some xs ∧ xs = ss.map D.str ∧ sizeJ s ss ≤ LIM ∧ d' = .str (TL.joinL s ss) := by
  have h' : ((seqD d).bind fun xs => (dStrs xs).bind fun ss => if sizeJ s ss ≤ LIM then some (D.str (TL.joinL s ss)) else none) = some d' := h
  cases q : seqD d with
  | none => rw [q] at h'; cases h'
  | some xs =>
    rw [q] at h'
    have h'' : ((dStrs xs).bind fun ss => if sizeJ s ss ≤ LIM then some (D.str (TL.joinL s ss)) else none) = some d' := h'
    cases q2 : dStrs xs with
    | none => rw [q2] at h''; cases h''
    | some ss =>
      rw [q2] at h''
      have h3 : (if sizeJ s ss ≤ LIM then some (D.str (TL.joinL s ss)) else none) = some d' := h''
      split at h3
      · rename_i c
        cases h3
        exact ⟨xs, ss, rfl, strs_eq q2, c, rfl⟩
      · cases h3
theorem ev_join {apos : Pos} (ho : EvE X S W a fa) (he : EvE X S W e fe) (hs : starEach [e] X.env = [(false, eval e X.env)] := by rfl) (hbase : attributeBase a "join" X.env (eval a X.env) = eval a X.env := by rfl) (hline : (apos.endLine == pos.line) = true := by rfl) :
    EvE X S W (.Call (.Attribute a "join" apos) [e] [] pos) (eJoin fa fe) := by
  obtain ⟨ta, pa, qa⟩ := ho
  obtain ⟨tb, pb, qb⟩ := he
  refine ⟨_, pe_join pa pb hs hbase hline, fun C σ H ρ Q E w => ?_⟩
  refine qa C σ H ρ _ E ((Wp.bind w).mono (fun _ _ h => h) fun r1 _ w1 v1 H1 E1 A1 R1 => ?_)
  obtain ⟨s, e1, w2⟩ := opt_wp w1
  obtain ⟨ev, os⟩ := R1.str e1
  refine ⟨⟨_, ev⟩, ?_⟩
  refine qb C σ H1 r1.2 _ E1 ((Wp.bind w2).mono (fun _ _ h => h) fun r2 _ w3 v2 H2 E2 A2 R2 => ?_)
  obtain ⟨d, e2, w4⟩ := deref_wp w3
  obtain ⟨d', e3, w5⟩ := opt_wp w4
  obtain ⟨xs, ss, e4, rfl, hl, rfl⟩ := dJoin_some e3
  obtain ⟨p', vs, rfl, h1, h2⟩ := (R2.rt E2 e2).seq e4
  obtain ⟨rfl, oks⟩ := h2.strs
  refine ⟨SX.S s, p', ss.map SX.S, ev, rfl, h1, ?_, ?_⟩
  · rw [map_S_len, List.length_map, S_len]
    exact hl
  · rw [join_S]
    exact w5 _ H2 E2 (A1.trans A2) (Rep.str _ (joinL_ok os oks))

/-! ### xs.append(e) -/
def plcOf : DV → Option Nat
  | .plc i => some i
  | _ => none
def addTo (d : D) : D → Option D
  | .lst ds => if ds.length < LIM then some (.lst (ds ++ [d])) else none
  | _ => none
def eApp (f g : SE) : SE := fun ρ => f ρ >>= fun r => ofOpt (plcOf r.1) >>= fun i => ofOpt (gt r.2 i) >>= fun d0 => ofOpt (seqLst d0) >>= fun _ => g r.2 >>= fun r2 => ofOpt (valOf r2.1) >>= fun d => ofOpt (gt r2.2 i) >>= fun l => ofOpt (addTo d l) >>= fun l' => .ok (.val .non, st r2.2 i (some l'))
where seqLst : D → Option Unit
  | .lst _ => some ()
  | _ => none
theorem plcOf_eq {x : DV} {i : Nat} (h : plcOf x = some i) : x = .plc i := by
  cases x with
  | val d => cases h
  | plc j => cases h; rfl
theorem addTo_some {d l l' : D} (h : addTo d l = some l') : ∃ ds, l = .lst ds ∧ ds.length < LIM ∧ l' = .lst (ds ++ [d]) := by
  unfold addTo at h
  split at h
  · split at h
    · cases h
      exact ⟨_, rfl, by assumption, rfl⟩
    · cases h
  · cases h
theorem ev_app {apos : Pos} (ho : EvE X S W a fa) (he : EvE X S W e fe) (hs : starEach [e] X.env = (false, eval e X.env) :: starEach [] X.env := by rfl)
    (hbase : attributeBase a "append" X.env (eval a X.env) = eval a X.env := by rfl)
    (hfew : ((backTo pos (starEach [e] X.env)).all (fun x => !x.1) && (backToKw pos (keywordEach [] X.env)).all (fun x => x.1.isSome)
      && decide (([e] : List Expr).length + ([] : List Keyword).length + (if ([] : List Keyword).isEmpty then 0 else 1) < 30)) = true := by rfl)
    (hline : (apos.endLine == pos.line) = true := by rfl) (hplain : (backTo pos (starEach [] X.env)).any (·.1) = false := by rfl) :
    EvE X S W (.Call (.Attribute a "append" apos) [e] [] pos) (eApp fa fe) := by
  obtain ⟨ta, pa, qa⟩ := ho
  obtain ⟨tb, pb, qb⟩ := he
  refine ⟨_, pe_bm PySem.F.plainAttrs_list PySem.F.slot_list_append F.type_list_append mt_append pa (pa_cons pb pa_nil hs) hbase hfew hline hs hplain, fun C σ H ρ Q E w => ?_⟩
  refine qa C σ H ρ _ E ((Wp.bind w).mono (fun _ _ h => h) fun r1 _ w1 v1 H1 E1 A1 R1 => ?_)
  obtain ⟨i, e1, w2⟩ := opt_wp w1
  obtain ⟨d0, e2, w3⟩ := opt_wp w2
  obtain ⟨u, e3, w4⟩ := opt_wp w3
  rw [plcOf_eq e1] at R1
  obtain ⟨hi, hs1⟩ := R1
  obtain ⟨ad, e4, ow, _⟩ := E1.own i d0 hi e2
  rw [hs1] at e4
  obtain rfl : v1 = .ref ad := by simpa using e4
  have ty : tyV X.K "list" (.ref ad) H1 := by
    cases d0 <;> first | cases e3 | skip
    obtain ⟨vs, h1, _⟩ := ow
    exact .inl ⟨rfl, vs, .inl (.inl h1)⟩
  refine ⟨ty, ?_⟩
  refine qb C σ H1 r1.2 _ E1 ((Wp.bind w4).mono (fun _ _ h => h) fun r2 _ w5 v2 H2 E2 A2 R2 => ?_)
  obtain ⟨d, e5, w6⟩ := opt_wp w5
  obtain ⟨l, e6, w7⟩ := opt_wp w6
  obtain ⟨l', e7, w8⟩ := opt_wp w7
  obtain ⟨ds, rfl, hl, rfl⟩ := addTo_some e7
  obtain ⟨ad2, e8, ow2, _⟩ := E2.own i _ hi e6
  rw [hs1] at e8
  obtain rfl : ad = ad2 := V.ref.inj (Option.some.inj (Option.some.inj e8))
  obtain ⟨vs, h1, h2⟩ := ow2
  have rp := R2.val e5
  refine ⟨ad, vs, v2, rfl, rfl, h1, by rw [h2.length, lim_eq]; exact hl, ?_⟩
  have oa : C.O S σ r2.2 ad := .inr ⟨i, hi, some_ne e6, hs1⟩
  have ra : RA (C.O S σ r2.2) H2 (C.O S σ r2.2) (upd H2 ad (.lst (vs ++ [v2]))) := ⟨fun b u nb hb => by
    have ne : b ≠ ad := fun z => nb (z ▸ oa)
    rcases hb with hb | ⟨o, hb⟩
    · exact .inl (by rw [upd_ne ne]; exact hb)
    · exact .inr ⟨o, by rw [upd_ne ne]; exact hb⟩, fun b z => .inl z, fun b hb => by
      by_cases z : b = ad
      · subst z; rw [upd_same]; exact some_ne rfl
      · rw [upd_ne z]; exact hb⟩
  have E3 := E2.mut (u := .lst (vs ++ [v2])) (d := .lst (ds ++ [d])) hi e6 hs1 trivial ⟨vs ++ [v2], upd_same, (h2.adv ra).snoc (rp.adv ra)⟩
  exact w8 _ _ E3 ((A1.trans A2).trans (adv_mut hi e6 hs1)) Rep.non

/-! ### xs[i] = e -/
def setAt (k : Int) (d : D) : D → Option D
  | .lst ds => (ixN ds.length k).map fun j => .lst (ds.set j d)
  | _ => none
theorem Reps.set {K : PySem.W.Frag} {T : Nat → Option Addr} {O : Addr → Prop} {H : Hp} {v : V} {d : D} : ∀ {vs : List V} {ds : List D} (j : Nat), Reps K T O H vs ds → Rep K T O H v d → Reps K T O H (vs.set j v) (ds.set j d)
  | _, _, _, .nil, _ => .nil
  | _, _, 0, .cons _ h, r => .cons r h
  | _, _, j + 1, .cons h1 h, r => .cons h1 (h.set j r)
def sStL (f o i : SE) : SS := fun ρ => f ρ >>= fun r => ofOpt (valOf r.1) >>= fun d => o r.2 >>= fun r1 => ofOpt (plcOf r1.1) >>= fun s => i r1.2 >>= fun r2 => ofOpt (asI r2.1) >>= fun k => ofOpt (gt r2.2 s) >>= fun l => ofOpt (setAt k d l) >>= fun l' => .ok (.nx, st r2.2 s (some l'))
theorem es_stL {o i : Expr} {fo fi : SE} {spos : Pos} (he : EvE X S W e fe) (ho : EvE X S W o fo) (hi : EvE X S W i fi)
    (ha : ∀ v, assign (.Subscript o i spos) X.env v = (do
      let ov ← holding [v] (eval o X.env)
      let iv ← holding [v, ov] (eval i X.env)
      standAt spos
      holding [v, ov, iv] (setItem ov iv v)
      release [v, ov, iv] []) := by intro _; rfl)
    (hs : swapsWithSole [.Subscript o i spos] e pos.line X.env = pure false := by rfl) (hw : swappedStores [.Subscript o i spos] e X.env = pure none := by rfl)
    (h1 : (assignEach [.Subscript o i spos] X.env).map (·.2) = [assign (.Subscript o i spos) X.env] := by rfl) :
    EvS X S W (.Assign [.Subscript o i spos] e pos) (sStL fe fo fi) := by
  obtain ⟨te, pe, qe⟩ := he
  obtain ⟨to, po, qo⟩ := ho
  obtain ⟨ti, pi, qi⟩ := hi
  refine ⟨_, ps_asg pe (pg_sub po pi set_list ha) hs hw h1, fun C σ H ρ E Er w => ?_⟩
  refine qe C σ H ρ _ Er ((Wp.bind w).mono (fun _ _ h => h) fun r0 _ w0 v0 H0 E0 A0 R0 => ?_)
  obtain ⟨d, e0, w1⟩ := opt_wp w0
  refine qo C σ H0 r0.2 _ E0 ((Wp.bind w1).mono (fun _ _ h => h) fun r1 _ w2 v1 H1 E1 A1 R1 => ?_)
  obtain ⟨s, e1, w3⟩ := opt_wp w2
  rw [plcOf_eq e1] at R1
  obtain ⟨hs0, hs1⟩ := R1
  refine qi C σ H1 r1.2 _ E1 ((Wp.bind w3).mono (fun _ _ h => h) fun r2 _ w4 v2 H2 E2 A2 R2 => ?_)
  obtain ⟨k, e2, w5⟩ := opt_wp w4
  obtain ⟨l, e3, w6⟩ := opt_wp w5
  obtain ⟨l', e4, w7⟩ := opt_wp w6
  have rp : Rep X.K S.T (C.O S σ r2.2) H2 v0 d := (R0.val e0).adv (A1.trans A2).ra
  unfold setAt at e4
  split at e4
  · rename_i ds
    obtain ⟨j, hj, rfl⟩ := map_some' e4
    obtain ⟨ad, e8, ow2, _⟩ := E2.own s _ hs0 e3
    rw [hs1] at e8
    obtain rfl : v1 = .ref ad := by simpa using e8
    obtain ⟨vs, g1, g2⟩ := ow2
    refine ⟨ad, vs, k, j, rfl, R2.int e2, g1, by rw [g2.length]; exact hj, ?_⟩
    have oa : C.O S σ r2.2 ad := .inr ⟨s, hs0, some_ne e3, hs1⟩
    have ra : RA (C.O S σ r2.2) H2 (C.O S σ r2.2) (upd H2 ad (.lst (vs.set j v0))) := ⟨fun b u nb hb => by
      have ne : b ≠ ad := fun z => nb (z ▸ oa)
      rcases hb with hb | ⟨o, hb⟩
      · exact .inl (by rw [upd_ne ne]; exact hb)
      · exact .inr ⟨o, by rw [upd_ne ne]; exact hb⟩, fun b z => .inl z, fun b hb => by
        by_cases z : b = ad
        · subst z; rw [upd_same]; exact some_ne rfl
        · rw [upd_ne z]; exact hb⟩
    have E3 := E2.mut (u := .lst (vs.set j v0)) (d := .lst (ds.set j d)) hs0 e3 hs1 trivial ⟨vs.set j v0, upd_same, (g2.adv ra).set j (rp.adv ra)⟩
    exact w7 _ _ E3 (((A0.trans A1).trans A2).trans (adv_mut hs0 e3 hs1))
  · cases e4
end
end EV

namespace PySem
open Sem (wp)
open Builtin Builtin.Str
theorem ev_meets_enumB {v : Value} {o : Obj} {H : Heap → Prop} (B : Begins v o H) :
    Meets (Builtin.«enumerate.__new__» ⟨[.type "enumerate", v], []⟩) (fun _ R s => H s.heap ∧
      R (.ok (.ret (.ref (s.heap.push o).objs.size)))
        { s with heap := (s.heap.push o).push { cls := .type "enumerate", data := .fields #[.none, .bool false, .ref s.heap.objs.size, rawInt 0, .none, .none] } }) :=
  .of_wp fun prog w A R s h => by
    obtain ⟨hp, g, d, tk, os⟩ := s; obtain ⟨h1, h⟩ := h
    have hsub := sub_enumerate
    have q1 : ∀ {A' : Around} {E : Value → Shared → Prop} {Q : Value → Shared → Prop}, Q (.ref hp.objs.size) ⟨(hp.push o), g, d, tk, os⟩ → wpAny (model prog w) A' (pyIter v) Q E ⟨hp, g, d, tk, os⟩ :=
      fun q => B.iter prog w _ _ ⟨hp, g, d, tk, os⟩ _ (B.keeps _ _ h1 fun b o' e => e) q
    wp_walk
    refine wpAny_stack_any fun st => wpAny_pure ?_
    split
    · rename_i c _ _ _ _ _
      cases (c == Value.type "enumerate")
      · wp_walk using q1
        exact ⟨_, rfl, h⟩
      · wp_walk using q1
        exact ⟨_, rfl, h⟩
    · wp_walk using q1
      exact ⟨_, rfl, h⟩
section
variable {prog : Program} {w : World} {A : Around} {E : Value → Shared → Prop} {s : Shared}
theorem ev_enum_begins {v : Value} {o : Obj} {H : Heap → Prop} {Q : Value → Shared → Prop} (B : Begins v o H) (h1 : H s.heap)
    (h : ∀ h', IsEnum h' (s.heap.objs.size + 1) s.heap.objs.size 0 .none → h'.get? s.heap.objs.size = some o → h'.objs.size = s.heap.objs.size + 2 →
      (∀ b o, s.heap.get? b = some o → h'.get? b = some o) → Q (.ref (s.heap.objs.size + 1)) { s with heap := h' }) :
    wpAny (model prog w) A (call (.type "enumerate") [v]) Q E s := by
  refine callType_new F.called_enumerate (by decide) (F.typeCall_enumerate_1 _) (F.newCall_enumerate_1 _) (fun obj => F.args_object_init_2 obj _) F.entry_enumerate_new
    (ev_meets_enumB B) ⟨h1, ?_⟩
  have hz : (s.heap.push o).objs.size = s.heap.objs.size + 1 := Heap.size_push ..
  show _ ∧ _
  rw [hz]
  have he : IsEnum ((s.heap.push o).push { cls := .type "enumerate", data := .fields #[.none, .bool false, .ref s.heap.objs.size, rawInt 0, .none, .none] }) (s.heap.objs.size + 1) s.heap.objs.size 0 .none := by
    have := Heap.get?_push_size (s.heap.push o) (o := { cls := .type "enumerate", data := .fields #[.none, .bool false, .ref s.heap.objs.size, rawInt 0, .none, .none] }) rfl
    rw [hz] at this; exact this
  refine ⟨⟨_, he, rfl⟩, h _ he (Heap.get?_push_of_some _ (Heap.get?_push_size _ B.free)) (by rw [Heap.size_push, hz]) fun b o x => Heap.get?_push_of_some _ (Heap.get?_push_of_some _ x)⟩
end
end PySem
namespace EV
open PySem PySem.Spec L2 SX
open PyProof.Rows hiding St

/-! ### what zip and enumerate go over: a list, a tuple, a text -/
inductive Sk where
  | lst (a : Addr) | tup (a : Addr) | txt (z : Str)
def Sk.v : Sk → V
  | .lst a => .ref a
  | .tup a => .ref a
  | .txt z => .str z
def Sk.fp : Sk → List Addr
  | .lst a => [a]
  | .tup a => [a]
  | .txt _ => []
def Sk.at (K : PySem.W.Frag) (H : Hp) (vs : List V) : Sk → Prop
  | .lst a => SqL K H a vs
  | .tup a => SqT K H a vs
  | .txt z => vs = z.cps.toList.map fun c => .str ⟨#[c]⟩
def Sk.it (h : Heap) (it : Addr) (i : Nat) : Sk → Prop
  | .lst a => h.IsListIter it a i
  | .tup a => h.IsTupleIter it a i
  | .txt z => ∃ t, h.IsStrIter it (strIterType z) z t i
theorem Sk.itAt {k : Sk} {h h' : Heap} {it : Addr} {i : Nat} (x : k.it h it i) (e : ∀ o, h.get? it = some o → h'.get? it = some o) : k.it h' it i := by
  cases k with
  | lst a => exact Heap.IsListIter.at x e
  | tup a => exact Heap.IsTupleIter.at x e
  | txt z =>
    obtain ⟨t, o, ho, hc, hd⟩ := x
    exact ⟨t, o, e o ho, hc, hd⟩
theorem Sk.itObj {k : Sk} {h : Heap} {it : Addr} {i : Nat} (x : k.it h it i) : ∃ o, h.get? it = some o ∧ ∀ v, o.data ≠ .cell v := by
  cases k with
  | lst a => obtain ⟨o, ho, hc, hd⟩ := x; exact ⟨o, ho, fun v q => by rw [hd] at q; cases q⟩
  | tup a => obtain ⟨o, ho, hc, hd⟩ := x; exact ⟨o, ho, fun v q => by rw [hd] at q; cases q⟩
  | txt z => obtain ⟨t, o, ho, hc, hd⟩ := x; exact ⟨o, ho, fun v q => by rw [hd] at q; cases q⟩
section
variable {X : Cx} {pins : List (Addr × Obj)} {σ : L2.St} {H : Hp} {s : Shared}
theorem Sk.uniq {k : Sk} {vs ws : List V} (I : Inv X pins σ H s) (h1 : k.at X.K H vs) (h2 : k.at X.K H ws) : vs = ws := by
  cases k with
  | lst a => exact I.list_inj h1 h2
  | tup a => exact I.tuple_inj h1 h2
  | txt z => exact (show vs = _ from h1).trans (show ws = _ from h2).symm
theorem Sk.draws {k : Sk} {A : Around} {it : Addr} {i : Nat} {vs : List V} (I : Inv X pins σ H s) (hh : A.handled = none) (ha : k.at X.K H vs) (hi : k.it s.heap it i) (hne : it ∉ k.fp) :
    ∃ (n : Nat) (P : Nat → Value → Prop) (St : Nat → Heap → Prop), n = vs.length ∧ Draws X.prog X.w A it (it :: k.fp) n P St ∧ St i s.heap ∧ (∀ j v, P j v → ∃ x, vs[j]? = some x ∧ L2.RelV x v) ∧ ∀ j h, St j h → k.it h it j := by
  cases k with
  | lst a =>
    obtain ⟨its, rv, pl, _⟩ := I.list ha
    have nab : a ≠ it := fun e => hne (by rw [e]; exact List.mem_singleton.mpr rfl)
    refine ⟨_, _, _, by rw [rv.length]; exact List.size_toArray, Draws.list hh it a nab its.toArray, ⟨hi, pl.isList⟩, fun j v h => vals_at rv (by rw [← List.getElem?_toArray]; exact h), fun j h st => st.1⟩
  | tup a =>
    obtain ⟨its, rv, pl, _⟩ := I.tuple ha
    have nab : a ≠ it := fun e => hne (by rw [e]; exact List.mem_singleton.mpr rfl)
    have hl' : s.heap.IsTuple a its.toArray := by
      obtain ⟨o, ho, hcls, n, hd⟩ := pl
      exact ⟨o, ho, hcls, n, hd⟩
    refine ⟨_, _, _, by rw [rv.length]; exact List.size_toArray, Draws.tuple hh it a nab its.toArray, ⟨hi, hl'⟩, fun j v h => vals_at rv (by rw [← List.getElem?_toArray]; exact h), fun j h st => st.1⟩
  | txt z =>
    obtain ⟨t, hi⟩ := hi
    obtain rfl : vs = _ := ha
    refine ⟨_, _, _, by rw [List.length_map, Array.length_toList], Draws.text hh it z t, hi, fun j v h => ?_, fun j h st => ⟨t, st⟩⟩
    obtain ⟨c, u, h1, rfl⟩ := h
    refine ⟨.str ⟨#[c]⟩, ?_, ⟨u, rfl⟩⟩
    rw [List.getElem?_map, Array.getElem?_toList, h1]
    rfl
/-- it begins -/
theorem Sk.begins {k : Sk} {vs : List V} {u : Value} (I : Inv X pins σ H s) (ha : k.at X.K H vs) (r : L2.RelV k.v u) :
    ∃ (o : Obj) (Hh : Heap → Prop), Begins u o Hh ∧ Hh s.heap ∧ (∀ (h : Heap) (it : Addr), h.get? it = some o → k.it h it 0) ∧ ∀ b, b ∈ k.fp → b < s.heap.objs.size := by
  cases k with
  | lst a =>
    cases r
    obtain ⟨its, rv, pl, _⟩ := I.list ha
    refine ⟨_, _, begins_list a its.toArray, pl.isList, fun h it e => ⟨_, e, rfl, rfl⟩, fun b hb => ?_⟩
    obtain rfl : b = a := List.mem_singleton.mp hb
    exact pl.lt
  | tup a =>
    cases r
    obtain ⟨its, rv, pl, _⟩ := I.tuple ha
    have hl' : s.heap.IsTuple a its.toArray := by
      obtain ⟨o, ho, hcls, n, hd⟩ := pl
      exact ⟨o, ho, hcls, n, hd⟩
    refine ⟨_, _, begins_tuple a its.toArray, hl', fun h it e => ⟨_, e, rfl, rfl⟩, fun b hb => ?_⟩
    obtain rfl : b = a := List.mem_singleton.mp hb
    obtain ⟨o, ho, _⟩ := hl'
    exact Heap.lt_size ho
  | txt z =>
    obtain ⟨t, rfl⟩ := r
    exact ⟨_, _, begins_text z t, trivial, fun h it e => ⟨t, _, e, rfl, rfl⟩, fun b hb => nomatch hb⟩
end
/-! ### zip -/
def ItzS (K : PySem.W.Frag) (a b : Sk) : It :=
  ⟨fun i H => ∃ (xs ys : List V), a.at K H xs ∧ b.at K H ys ∧ i < xs.length ∧ i < ys.length,
    fun i H v H' => ∃ (T : Addr) (x y : V) (o : Obj), v = .ref T ∧ H T = none ∧ o.dict = none ∧ H' = upd H T (.frz o (.tup [x, y])) ∧ (∀ xs, a.at K H xs → xs[i]? = some x) ∧ ∀ ys, b.at K H ys → ys[i]? = some y,
    fun i H => ∃ xs ys : List V, a.at K H xs ∧ b.at K H ys ∧ i ≤ xs.length ∧ i ≤ ys.length ∧ (i = xs.length ∨ i = ys.length)⟩
theorem turn_zipS {P : Program} {w : World} {K : PySem.W.Frag} {elts : List Expr} {kk : Nat} {tpos : Pos} {a b : Sk} {z TI TO i1 i2 : Addr} (D : ZipSep2 z TI TO i1 i2 (i1 :: a.fp) (i2 :: b.fp)) (n1 : i1 ∉ a.fp) (n2 : i2 ∉ b.fp) :
    Turn P w K (.Tuple elts kk tpos) (ItzS K a b) [z, TI, TO, i1, i2] z (fun i h => IsZip h z TI TO .none ∧ IsTupOf2 h TI (.ref i1) (.ref i2) ∧ (∃ x y, IsTupOf2 h TO x y) ∧ a.it h i1 i ∧ b.it h i2 i) where
  mem := by simp
  obj := fun i h st c hc => by
    obtain ⟨hz, hTI, ⟨x, y, hTO⟩, h1, h2⟩ := st
    have e' : c = z ∨ c = TI ∨ c = TO ∨ c = i1 ∨ c = i2 := by simpa using hc
    rcases e' with q | q | q | q | q
    · rw [q]; exact ⟨_, hz, fun v q => nomatch q⟩
    · rw [q]; exact ⟨_, hTI, fun v q => nomatch q⟩
    · rw [q]; exact ⟨_, hTO, fun v q => nomatch q⟩
    · rw [q]; exact Sk.itObj h1
    · rw [q]; exact Sk.itObj h2
  keep := fun i h h' st k => by
    obtain ⟨hz, hTI, ⟨x, y, hTO⟩, h1, h2⟩ := st
    exact ⟨k z (by simp) _ hz, k TI (by simp) _ hTI, ⟨x, y, k TO (by simp) _ hTO⟩, Sk.itAt h1 fun o q => k i1 (by simp) o q, Sk.itAt h2 fun o q => k i2 (by simp) o q⟩
  item := by
    intro X hP hw hK hc i pins s σ H E I hf st hg
    subst hP hw hK
    obtain ⟨hz, hTI, ⟨x0, y0, hTO⟩, h1, h2⟩ := st
    obtain ⟨xs, ys, hqx, hqy, hx, hy⟩ := hg
    obtain ⟨m1, P1, St1, em1, D1, st1, r1, c1⟩ := Sk.draws (A := X.A.in1) I (I.ok.hd hc) hqx h1 n1
    obtain ⟨m2, P2, St2, em2, D2, st2, r2, c2⟩ := Sk.draws (A := X.A.in1) I (I.ok.hd hc) hqy h2 n2
    have hzl : z < s.heap.objs.size := Heap.lt_size hz
    refine wpAny_pyNext_zipD2_item D D1 D2 hz hTI hTO st1 st2 (by rw [em1]; exact hx) (by rw [em2]; exact hy) fun u u2 h' tk y1 y2 z' TO' d1 d2 hT hsz hk => ?_
    obtain ⟨x, hx', ru⟩ := r1 i u y1
    obtain ⟨y, hy', ru2⟩ := r2 i u2 y2
    refine ⟨_, rfl, wpAny_letOwnedTupleGo_zip (s := { s with heap := h', toks := tk }) z' fun h'' z'' sb => ?_⟩
    have hT2 : h''.get? s.heap.objs.size = some { cls := .type "tuple", data := .seq #[u, u2] } := (sb.2 _ (Nat.ne_of_gt hzl)).trans hT
    have new : ObjOk X.prog X.w (upd H s.heap.objs.size (.frz { cls := .type "tuple", data := .seq #[u, u2] } (.tup [x, y]))) h'' s.heap.objs.size (.frz { cls := .type "tuple", data := .seq #[u, u2] } (.tup [x, y])) :=
      ⟨hT2, by show 2 ≤ sizeLine; decide, [u, u2], .cons ru (.cons ru2 .nil), ⟨_, hT2, rfl, _, rfl⟩⟩
    have I1 : Inv X pins σ (upd H s.heap.objs.size (.frz { cls := .type "tuple", data := .seq #[u, u2] } (.tup [x, y]))) { s with heap := h'', toks := tk } :=
      I.turnedNew (t' := tk) (ch := [z, TI, TO, i1, i2]) (fun c o hb q => (sb.2 c (fun q' => hb (by simp [q']))).trans (hk c o (fun q' => hb (by simp [q'])) (fun q' => hb (by simp [q'])) (fun q' => hb (by simp [q'])) (fun q' => hb (by simp [q'])) q)) hf (Nat.le_refl _) new
    refine ⟨.ref s.heap.objs.size, _, I1, rfl, ⟨_, x, y, _, rfl, I.hok.fresh (Nat.le_refl _), rfl, rfl, fun l hl => by rw [Sk.uniq I hl hqx]; exact hx', fun l hl => by rw [Sk.uniq I hl hqy]; exact hy'⟩, ⟨z'', ?_, ⟨u, u2, ?_⟩, ?_, ?_⟩, fun c hcm => ?_⟩
    · exact (sb.2 _ D.TIz).trans (hk _ _ D.TIz D.TITO D.TIi1 D.TIi2 hTI)
    · exact (sb.2 _ D.TOz).trans TO'
    · exact Sk.itAt (c1 _ _ d1) fun o q => (sb.2 _ D.zi1.symm).trans q
    · exact Sk.itAt (c2 _ _ d2) fun o q => (sb.2 _ D.zi2.symm).trans q
    · have hlt : c < s.heap.objs.size := by
        have e' : c = z ∨ c = TI ∨ c = TO ∨ c = i1 ∨ c = i2 := by simpa using hcm
        rcases e' with q | q | q | q | q
        · rw [q]; exact hzl
        · rw [q]; exact Heap.lt_size hTI
        · rw [q]; exact Heap.lt_size hTO
        · rw [q]; obtain ⟨_, e1, _⟩ := Sk.itObj h1; exact Heap.lt_size e1
        · rw [q]; obtain ⟨_, e2, _⟩ := Sk.itObj h2; exact Heap.lt_size e2
      rw [upd_ne (Nat.ne_of_lt hlt)]
      exact (hf c hcm).1
  done := by
    intro X hP hw hK hc i pins s σ H E I hf st hg
    subst hP hw hK
    obtain ⟨hz, hTI, ⟨x0, y0, hTO⟩, h1, h2⟩ := st
    obtain ⟨xs, ys, hqx, hqy, l1, l2, hend⟩ := hg
    obtain ⟨m1, P1, St1, em1, D1, st1, r1, c1⟩ := Sk.draws (A := X.A.in1) I (I.ok.hd hc) hqx h1 n1
    obtain ⟨m2, P2, St2, em2, D2, st2, r2, c2⟩ := Sk.draws (A := X.A.in1) I (I.ok.hd hc) hqy h2 n2
    refine wpAny_pyNext_zipD2_end D D1 D2 hz hTI hTO st1 st2 (by rw [em1]; exact l1) (by rw [em2]; exact l2) (by rw [em1, em2]; exact hend) fun h' tk hk => ⟨rfl, I.turnedL (t' := tk) (ch := [z, TI, TO, i1, i2]) (fun c o hb q =>
      hk c o (fun q' => hb (by simp [q'])) (fun q' => hb (by simp [q'])) (fun q' => hb (by simp [q'])) (fun q' => hb (by simp [q'])) q) hf⟩
  self := fun A i s Q E st h => wpAny_pyIter_zip st.1 h
def iZipS (K : PySem.W.Frag) (ta : TA) : TI := fun σ H R => ta σ H fun vs H1 => ∃ (a b : Sk) (xs ys : List V), vs = [a.v, b.v] ∧ a.at K H1 xs ∧ b.at K H1 ys ∧ R (ItzS K a b) H1
theorem pi_zipS {X : Cx} {e e2 : Expr} {ta : TA} {p pos tpos : Pos} {elts : List Expr} {kk : Nat} (hg : Gl X "zip") (hm : X.mg "zip" = none) (ha : PA X [e, e2] ta)
    (hs : starEach [e, e2] X.env = (false, eval e X.env) :: starEach [e2] X.env := by rfl) (hpl : (backTo pos (starEach [e2] X.env)).any (·.1) = false := by rfl) :
    PI X (.Tuple elts kk tpos) (.Call (.Name "zip" p) [e, e2] [] pos) (iZipS X.K ta) := by
  refine ⟨fun pins s σ H R I h => ?_⟩
  refine Call_ (ld_blt I hg hm PyProof.Rows.boot_zip (PyProof.Rows.callWith_type1 (thn (ha.run pos pins s σ H _ I h) fun us s1 ⟨vs, H1, I1, r1, q1⟩ => ?_) hs hpl))
  obtain ⟨a, b, xs, ys, ex, hqx, hqy, q⟩ := q1
  subst ex
  obtain ⟨u, u2, rfl, ru, ru2⟩ := vals2 r1
  obtain ⟨o1, H1', B1, hh1, at1, f1⟩ := Sk.begins I1 hqx ru
  obtain ⟨o2, H2', B2, hh2, at2, f2⟩ := Sk.begins I1 hqy ru2
  have fresh5 : ∀ c, c ∈ [s1.heap.objs.size + 4, s1.heap.objs.size + 2, s1.heap.objs.size + 3, s1.heap.objs.size, s1.heap.objs.size + 1] → FpOk X pins H1 c := fun c hcm => by
    have e' : c = s1.heap.objs.size + 4 ∨ c = s1.heap.objs.size + 2 ∨ c = s1.heap.objs.size + 3 ∨ c = s1.heap.objs.size ∨ c = s1.heap.objs.size + 1 := by simpa using hcm
    have hle : s1.heap.objs.size ≤ c := by
      rcases e' with z | z | z | z | z
      · rw [z]; exact Nat.le_add_right _ _
      · rw [z]; exact Nat.le_add_right _ _
      · rw [z]; exact Nat.le_add_right _ _
      · rw [z]; exact Nat.le_refl _
      · rw [z]; exact Nat.le_add_right _ _
    exact I1.fpOk hle (I1.hok.fresh hle)
  refine zip_begins2 B1 B2 hh1 hh2 fun h' hz hTI hTO g1 g2 hsz hk => wpAny_pyIter_zip hz ?_
  have I2 : Inv X pins σ H1 { s1 with heap := h' } := I1.kept (t' := s1.toks) hk
  refine ⟨s1.heap.objs.size + 4, [s1.heap.objs.size + 4, s1.heap.objs.size + 2, s1.heap.objs.size + 3, s1.heap.objs.size, s1.heap.objs.size + 1], _, _, H1, rfl, I2, turn_zipS (zip_sep2 f1 f2) (fun hm => ?_) (fun hm => ?_), ⟨hz, hTI, ⟨_, _, hTO⟩, at1 _ _ g1, at2 _ _ g2⟩, fresh5, q⟩
  · exact Nat.lt_irrefl _ (f1 _ hm)
  · exact Nat.not_succ_lt_self (f2 _ hm)

/-! ### enumerate -/
def IteS (K : PySem.W.Frag) (a : Sk) : It :=
  ⟨fun i H => ∃ (xs : List V), a.at K H xs ∧ i < xs.length, fun i H v H' => ∃ (T : Addr) (x : V) (o : Obj), v = .ref T ∧ H T = none ∧ o.dict = none ∧ H' = upd H T (.frz o (.tup [.int (i : Nat), x])) ∧ ∀ xs, a.at K H xs → xs[i]? = some x, fun i H => ∃ xs : List V, a.at K H xs ∧ i = xs.length⟩
theorem turn_enumS {P : Program} {w : World} {K : PySem.W.Frag} {elts : List Expr} {kk : Nat} {tpos : Pos} (a : Sk) (e it : Addr) (hne : e ≠ it) (hef : e ∉ a.fp) (hif : it ∉ a.fp) :
    Turn P w K (.Tuple elts kk tpos) (IteS K a) [e, it] e (fun i h => (∃ old, IsEnum h e it ((i : Nat) : Int) old) ∧ a.it h it i) where
  mem := by simp
  obj := fun i h st b hb => by
    obtain ⟨⟨old, he⟩, h1⟩ := st
    have e' : b = e ∨ b = it := by simpa using hb
    rcases e' with z | z
    · rw [z]; exact ⟨_, he, fun v q => nomatch q⟩
    · rw [z]; exact Sk.itObj h1
  keep := fun i h h' st k => let ⟨⟨old, he⟩, hi⟩ := st; ⟨⟨old, k e (by simp) _ he⟩, Sk.itAt hi fun o q => k it (by simp) o q⟩
  item := by
    intro X hP hw hK hc i pins s σ H E I hf st hg
    subst hP hw hK
    obtain ⟨⟨old, he⟩, hit⟩ := st
    obtain ⟨xs, hq, hx⟩ := hg
    obtain ⟨m1, P1, St1, em1, D1, st1, r1, c1⟩ := Sk.draws (A := X.A.in1) I (I.ok.hd hc) hq hit hif
    have hel : e < s.heap.objs.size := Heap.lt_size he
    have hil : it < s.heap.objs.size := by obtain ⟨_, q, _⟩ := Sk.itObj hit; exact Heap.lt_size q
    refine wpAny_pyNext_enum_itemD D1 he st1 (by rw [em1]; exact hx) hne (fun hm => (List.mem_cons.mp hm).elim hne hef) fun u h' tk y1 ho hit' hT hsz hk => ?_
    obtain ⟨x, hx', ru⟩ := r1 i u y1
    refine ⟨_, rfl, wpAny_letOwnedTupleGo_enum (s := { s with heap := h', toks := tk + 1 }) ho fun h'' he' sb => ?_⟩
    have hT2 : h''.get? s.heap.objs.size = some { cls := .type "tuple", data := .seq #[.int i tk, u] } := (sb.2 _ (Nat.ne_of_gt hel)).trans hT
    have new : ObjOk X.prog X.w (upd H s.heap.objs.size (.frz { cls := .type "tuple", data := .seq #[.int i tk, u] } (.tup [.int (i : Nat), x]))) h'' s.heap.objs.size (.frz { cls := .type "tuple", data := .seq #[.int i tk, u] } (.tup [.int (i : Nat), x])) :=
      ⟨hT2, by show 2 ≤ sizeLine; decide, [.int i tk, u], .cons ⟨_, rfl⟩ (.cons ru .nil), ⟨_, hT2, rfl, _, rfl⟩⟩
    have I1 : Inv X pins σ (upd H s.heap.objs.size (.frz { cls := .type "tuple", data := .seq #[.int i tk, u] } (.tup [.int (i : Nat), x]))) { s with heap := h'', toks := tk + 1 } :=
      I.turnedNew (ch := [e, it]) (fun b ob hb q => (sb.2 b (fun z => hb (by simp [z]))).trans (hk b ob (fun z => hb (by simp [z])) (fun z => hb (by simp [z])) q)) hf (Nat.le_refl _) new
    refine ⟨.ref s.heap.objs.size, _, I1, rfl, ⟨_, x, _, rfl, I.hok.fresh (Nat.le_refl _), rfl, rfl, fun ys hy => by rw [Sk.uniq I hy hq]; exact hx'⟩, ⟨⟨u, ?_⟩, Sk.itAt (c1 _ _ hit') fun o q => (sb.2 it (Ne.symm hne)).trans q⟩, fun b hb => ?_⟩
    · have e1 : ((i + 1 : Nat) : Int) = (i : Int) + 1 := by omega
      rw [e1]; exact he'
    · have hb' : b < s.heap.objs.size := by
        have e' : b = e ∨ b = it := by simpa using hb
        rcases e' with z | z
        · rw [z]; exact hel
        · rw [z]; exact hil
      rw [upd_ne (Nat.ne_of_lt hb')]
      exact (hf b hb).1
  done := by
    intro X hP hw hK hc i pins s σ H E I hf st hg
    subst hP hw hK
    obtain ⟨⟨old, he⟩, hit⟩ := st
    obtain ⟨xs, hq, rfl⟩ := hg
    obtain ⟨m1, P1, St1, em1, D1, st1, r1, c1⟩ := Sk.draws (A := X.A.in1) I (I.ok.hd hc) hq hit hif
    rw [← em1] at st1 he
    obtain ⟨f0, f1, f2, f3, f4, f5⟩ := hf it (by simp)
    exact wpAny_pyNext_enum_endD D1 he st1 fun h' eb => ⟨rfl, I.turned (t' := s.toks) (fun b o hb q => eb b o hb q) f0 f1 f3 f4 f5⟩
  self := fun A i s Q E st h => let ⟨⟨_, he⟩, _⟩ := st; wpAny_pyIter_enum he h
def iEnumS (K : PySem.W.Frag) (ta : TA) : TI := fun σ H R => ta σ H fun vs H1 => ∃ (a : Sk) (xs : List V), vs = [a.v] ∧ a.at K H1 xs ∧ R (IteS K a) H1
theorem pi_enumS {X : Cx} {e : Expr} {ta : TA} {p pos tpos : Pos} {elts : List Expr} {kk : Nat} (hg : Gl X "enumerate") (hm : X.mg "enumerate" = none) (ha : PA X [e] ta) (hs : starEach [e] X.env = [(false, eval e X.env)] := by rfl) :
    PI X (.Tuple elts kk tpos) (.Call (.Name "enumerate" p) [e] [] pos) (iEnumS X.K ta) := by
  refine ⟨fun pins s σ H R I h => ?_⟩
  refine Call_ (ld_blt I hg hm boot_enumerate (PyProof.Rows.callWith_type1 (thn (ha.run pos pins s σ H _ I h) fun us s1 ⟨vs, H1, I1, r1, q1⟩ => ?_) hs rfl))
  obtain ⟨a, xs, ex, hq, q⟩ := q1
  subst ex
  obtain ⟨u, rfl, ru⟩ := vals1 r1
  obtain ⟨o1, H1', B1, hh1, at1, f1⟩ := Sk.begins I1 hq ru
  refine ev_enum_begins B1 hh1 fun h' he g1 hsz hk => wpAny_pyIter_enum he ?_
  have I2 : Inv X pins σ H1 { s1 with heap := h' } := I1.kept (t' := s1.toks) hk
  refine ⟨s1.heap.objs.size + 1, [s1.heap.objs.size + 1, s1.heap.objs.size], _, _, H1, rfl, I2, turn_enumS a (s1.heap.objs.size + 1) s1.heap.objs.size (Nat.succ_ne_self _) (fun hm => ?_) (fun hm => ?_), ⟨⟨.none, he⟩, at1 _ _ g1⟩, fun b hb => ?_, q⟩
  · exact Nat.not_succ_lt_self (f1 _ hm)
  · exact Nat.lt_irrefl _ (f1 _ hm)
  · have e' : b = s1.heap.objs.size + 1 ∨ b = s1.heap.objs.size := by simpa using hb
    have hle : s1.heap.objs.size ≤ b := by
      rcases e' with z | z
      · rw [z]; exact Nat.le_add_right _ _
      · rw [z]; exact Nat.le_refl _
    exact I1.fpOk hle (I1.hok.fresh hle)
end EV

namespace EV
open PySem PySem.Spec L2 SX
open PyProof.Rows hiding St
def seqTD : D → Option (List D)
  | .lst xs => some xs
  | .tup xs => some xs
  | .str s => some (signs s)
  | _ => none
/-- what a value that is gone over gives, at any later moment -/
theorem sk_of {K : PySem.W.Frag} {T : Nat → Option Addr} {O : Addr → Prop} {H : Hp} {v : V} {d : D} {ds : List D} (h : Rep K T O H v d) (e : seqTD d = some ds) :
    ∃ (k : Sk) (vs : List V), v = k.v ∧ vs.length = ds.length ∧ ∀ O1 H1, RA O H O1 H1 → k.at K H1 vs ∧ ∀ (j : Nat) (d : D), ds[j]? = some d → ∃ x, vs[j]? = some x ∧ Rep K T O1 H1 x d := by
  cases d <;> first | (cases e; done) | skip
  · rename_i s
    cases e
    cases h with
    | str _ hs =>
      refine ⟨.txt (SX.S s), (SX.S s).cps.toList.map fun c => .str ⟨#[c]⟩, rfl, by rw [List.length_map, S_toList]; simp [signs], fun O1 H1 ra => ⟨rfl, fun j d hd => ?_⟩⟩
      rw [S_toList, List.getElem?_map]
      unfold signs at hd
      rw [List.getElem?_map] at hd
      cases q : s[j]? with
      | none => rw [q] at hd; cases hd
      | some c =>
        rw [q] at hd
        have hd : some (D.str [c]) = some d := hd
        cases hd
        refine ⟨.str ⟨#[c]⟩, rfl, ?_⟩
        exact Rep.str [c] fun z hz => by
          rw [List.mem_singleton] at hz
          rw [hz]
          exact hs c (List.mem_of_getElem? q)
  · rename_i xs
    cases e
    cases h with
    | tup h1 h2 => exact ⟨.tup _, _, rfl, h2.length, fun O1 H1 ra => ⟨(h1.adv ra).sq, fun j d hd => (h2.adv ra).get hd⟩⟩
  · rename_i xs
    cases e
    cases h with
    | lst h0 h1 h2 => exact ⟨.lst _, _, rfl, h2.length, fun O1 H1 ra => ⟨.inl (rd_adv ra h0 h1).2, fun j d hd => (h2.adv ra).get hd⟩⟩
def zipL : List D → List D → List D
  | a :: as, b :: bs => .tup [a, b] :: zipL as bs
  | _, _ => []
theorem zipL_length : ∀ as bs : List D, (zipL as bs).length = min as.length bs.length
  | a :: as, b :: bs => by
    show (zipL as bs).length + 1 = _
    rw [zipL_length as bs, List.length_cons, List.length_cons]
    omega
  | [], bs => by simp [zipL]
  | a :: as, [] => by simp [zipL]
theorem zipL_get : ∀ {as bs : List D} {i : Nat} {d : D}, (zipL as bs)[i]? = some d → ∃ a b, as[i]? = some a ∧ bs[i]? = some b ∧ d = .tup [a, b]
  | a :: as, b :: bs, 0, d, h => by
    have h' : some (D.tup [a, b]) = some d := h
    cases h'
    exact ⟨a, b, rfl, rfl, rfl⟩
  | a :: as, b :: bs, i + 1, d, h => by
    obtain ⟨x, y, h1, h2, h3⟩ := zipL_get (as := as) (bs := bs) (i := i) (by simpa [zipL] using h)
    exact ⟨x, y, by simpa using h1, by simpa using h2, h3⟩
  | [], bs, i, d, h => by simp [zipL] at h
  | a :: as, [], i, d, h => by simp [zipL] at h
def enumL : Nat → List D → List D
  | _, [] => []
  | k, a :: as => .tup [.int k, a] :: enumL (k + 1) as
theorem enumL_length : ∀ (k : Nat) (as : List D), (enumL k as).length = as.length
  | _, [] => rfl
  | k, a :: as => congrArg (· + 1) (enumL_length (k + 1) as)
theorem enumL_get : ∀ {k : Nat} {as : List D} {i : Nat} {d : D}, (enumL k as)[i]? = some d → ∃ a, as[i]? = some a ∧ d = .tup [.int (k + i : Nat), a]
  | k, a :: as, 0, d, h => by
    have h' : some (D.tup [.int k, a]) = some d := h
    cases h'
    exact ⟨a, rfl, rfl⟩
  | k, a :: as, i + 1, d, h => by
    obtain ⟨x, h1, h2⟩ := enumL_get (k := k + 1) (as := as) (i := i) (by simpa [enumL] using h)
    refine ⟨x, by simpa using h1, ?_⟩
    rw [h2, show k + 1 + i = k + (i + 1) by omega]
  | k, [], i, d, h => by simp [enumL] at h
section
variable {X : Cx} {S : ES} {W : WX} {pos p tpos : Pos} {elts : List Expr} {kk : Nat}
theorem itd_zip {m : MO} {H : Hp} {a b : Sk} {xs ys : List V} {as bs : List D} (l1 : xs.length = as.length) (l2 : ys.length = bs.length)
    (h1 : ∀ O1 H1, RA m.O H O1 H1 → a.at X.K H1 xs ∧ ∀ (j : Nat) (d : D), as[j]? = some d → ∃ x, xs[j]? = some x ∧ Rep X.K S.T O1 H1 x d)
    (h2 : ∀ O1 H1, RA m.O H O1 H1 → b.at X.K H1 ys ∧ ∀ (j : Nat) (d : D), bs[j]? = some d → ∃ x, ys[j]? = some x ∧ Rep X.K S.T O1 H1 x d) :
    ItD X.K S (ItzS X.K a b) (zipL as bs) m H where
  go := fun m1 H1 i ra hi => by
    rw [zipL_length] at hi
    exact ⟨xs, ys, (h1 _ _ ra).1, (h2 _ _ ra).1, by omega, by omega⟩
  stop := fun m1 H1 ra => by
    rw [zipL_length]
    exact ⟨xs, ys, (h1 _ _ ra).1, (h2 _ _ ra).1, by omega, by omega, by omega⟩
  yld := fun C S' σ H1 ρ i x H2 d hS E ra y hd => by
    obtain ⟨T, u, w, oT, rfl, hT, hdT, rfl, f1, f2⟩ := y
    obtain ⟨da, db, g1, g2, rfl⟩ := zipL_get hd
    obtain ⟨a1, a2⟩ := h1 _ _ ra
    obtain ⟨b1, b2⟩ := h2 _ _ ra
    obtain ⟨u', e1, r1⟩ := a2 i da g1
    obtain ⟨w', e2, r2⟩ := b2 i db g2
    have e3 := f1 xs a1
    have e4 := f2 ys b1
    rw [e1] at e3
    rw [e2] at e4
    cases e3
    cases e4
    have x := Ex.new (o := .frz oT (.tup [u, w])) hT
    rw [← hS] at r1 r2
    exact ⟨x, .tup (.fresh (OH.fresh E.omut hT) upd_same hdT) (.cons (r1.adv x.ra) (.cons (r2.adv x.ra) .nil))⟩
theorem itd_enum {m : MO} {H : Hp} {a : Sk} {xs : List V} {as : List D} (l1 : xs.length = as.length)
    (h1 : ∀ O1 H1, RA m.O H O1 H1 → a.at X.K H1 xs ∧ ∀ (j : Nat) (d : D), as[j]? = some d → ∃ x, xs[j]? = some x ∧ Rep X.K S.T O1 H1 x d) :
    ItD X.K S (IteS X.K a) (enumL 0 as) m H where
  go := fun m1 H1 i ra hi => by
    rw [enumL_length] at hi
    exact ⟨xs, (h1 _ _ ra).1, by omega⟩
  stop := fun m1 H1 ra => by
    rw [enumL_length]
    exact ⟨xs, (h1 _ _ ra).1, l1.symm⟩
  yld := fun C S' σ H1 ρ i x H2 d hS E ra y hd => by
    obtain ⟨T, u, oT, rfl, hT, hdT, rfl, f1⟩ := y
    obtain ⟨da, g1, rfl⟩ := enumL_get hd
    obtain ⟨a1, a2⟩ := h1 _ _ ra
    obtain ⟨u', e1, r1⟩ := a2 i da g1
    have e3 := f1 xs a1
    rw [e1] at e3
    cases e3
    have x := Ex.new (o := .frz oT (.tup [.int (i : Nat), u])) hT
    rw [← hS] at r1
    rw [Nat.zero_add]
    exact ⟨x, .tup (.fresh (OH.fresh E.omut hT) upd_same hdT) (.cons (.int _) (.cons (r1.adv x.ra) .nil))⟩
def zip2 : List D → Option (List D)
  | [a, b] => (seqTD a).bind fun as => (seqTD b).map fun bs => zipL as bs
  | _ => none
def enum1 : List D → Option (List D)
  | [a] => (seqTD a).map fun as => enumL 0 as
  | _ => none
theorem ei_zip {a b : Expr} {fs} (hg : Gl X "zip") (hm : X.mg "zip" = none) (ha : EvA X S W [a, b] fs) (hs : starEach [a, b] X.env = (false, eval a X.env) :: starEach [b] X.env := by rfl) (hpl : (backTo pos (starEach [b] X.env)).any (·.1) = false := by rfl) :
    EvI X S W (.Tuple elts kk tpos) (.Call (.Name "zip" p) [a, b] [] pos) (iRng zip2 fs) := by
  obtain ⟨t, pt, q⟩ := ha
  refine ⟨_, pi_zipS hg hm pt hs hpl, fun C σ H ρ R E w => ?_⟩
  refine q C σ H ρ _ E ((Wp.bind w).mono (fun _ _ h => h) fun r1 _ w1 vs H1 E1 A1 R1 => ?_)
  obtain ⟨ds, e1, w2⟩ := opt_wp w1
  obtain ⟨xs, e2, w3⟩ := opt_wp w2
  have rs := R1.reps e1
  unfold zip2 at e2
  split at e2
  · rename_i d1 d2
    cases q1 : seqTD d1 with
    | none => rw [q1] at e2; cases e2
    | some as =>
      rw [q1] at e2
      obtain ⟨bs, q2, rfl⟩ := map_some' (show (seqTD d2).map (fun bs => zipL as bs) = some xs from e2)
      cases rs with
      | cons ra rs' =>
        cases rs' with
        | cons rb rn =>
          cases rn
          obtain ⟨ka, va, rfl, la, ha⟩ := sk_of ra q1
          obtain ⟨kb, vb, rfl, lb, hb⟩ := sk_of rb q2
          exact ⟨ka, kb, va, vb, rfl, (ha _ _ (RA.refl _ _)).1, (hb _ _ (RA.refl _ _)).1, w3 _ H1 E1 A1 (itd_zip la lb ha hb)⟩
  · cases e2
theorem ei_enum {a : Expr} {fs} (hg : Gl X "enumerate") (hm : X.mg "enumerate" = none) (ha : EvA X S W [a] fs) (hs : starEach [a] X.env = [(false, eval a X.env)] := by rfl) :
    EvI X S W (.Tuple elts kk tpos) (.Call (.Name "enumerate" p) [a] [] pos) (iRng enum1 fs) := by
  obtain ⟨t, pt, q⟩ := ha
  refine ⟨_, pi_enumS hg hm pt hs, fun C σ H ρ R E w => ?_⟩
  refine q C σ H ρ _ E ((Wp.bind w).mono (fun _ _ h => h) fun r1 _ w1 vs H1 E1 A1 R1 => ?_)
  obtain ⟨ds, e1, w2⟩ := opt_wp w1
  obtain ⟨xs, e2, w3⟩ := opt_wp w2
  have rs := R1.reps e1
  unfold enum1 at e2
  split at e2
  · rename_i d1
    obtain ⟨as, q1, rfl⟩ := map_some' e2
    cases rs with
    | cons ra rs' =>
      cases rs'
      obtain ⟨ka, va, rfl, la, ha⟩ := sk_of ra q1
      exact ⟨ka, va, rfl, (ha _ _ (RA.refl _ _)).1, w3 _ H1 E1 A1 (itd_enum la ha)⟩
  · cases e2

/-! ### a name owns no more: what it holds will not change -/
theorem M_frz {C : EC} {σ : St} {ρ : Env} {i : Nat} {ow' : List Nat} (ho : ∀ j, j ∈ S.ow ↔ j = i ∨ j ∈ ow') {a : Addr} (h : EC.M { S with ow := ow' } σ ρ a) : EC.M S σ ρ a := by
  obtain ⟨j, h1, h2, h3⟩ := h
  exact ⟨j, (ho j).mpr (.inr h1), h2, h3⟩
theorem M_thaw {C : EC} {σ : St} {ρ : Env} {i : Nat} {ow' : List Nat} (ho : ∀ j, j ∈ S.ow ↔ j = i ∨ j ∈ ow') {a : Addr} (h : EC.M S σ (st ρ i none) a) : EC.M { S with ow := ow' } σ ρ a := by
  obtain ⟨j, h1, h2, h3⟩ := h
  by_cases e : j = i
  · subst e; rw [gt_st_none] at h2; exact absurd rfl h2
  · rw [gt_st_ne ρ i j _ e] at h2
    exact ⟨j, ((ho j).mp h1).resolve_left e, h2, h3⟩
def isLive (i : Nat) (ρ : Env) : Bool := (gt ρ i).isSome
/-- the rest is run with slot i shared -/
def bFrz (i : Nat) (f : SS) : SS := fun ρ => gd (isLive i ρ) >>= fun _ => f ρ >>= fun r => .ok (r.1, st r.2 i none)
theorem ER.frz {K : PySem.W.Frag} {C : EC} {σ : St} {H : Hp} {ρ : Env} {i : Nat} {ow' : List Nat} (E : ER K S C σ H ρ) (ho : ∀ j, j ∈ S.ow ↔ j = i ∨ j ∈ ow') (hn : i ∉ ow') (hf : i ∉ S.fx) (hl : gt ρ i ≠ none) : ER K { S with ow := ow' } C σ H ρ := by
  have sub : ∀ a, C.O { S with ow := ow' } σ ρ a → C.O S σ ρ a := fun a z => z.imp id (M_frz (C := C) ho)
  refine ⟨E.len, fun j d hj hd => ?_, fun j d hj hd => ?_, fun j k a hj hk => E.dis j k a ((ho j).mpr (.inr hj)) ((ho k).mpr (.inr hk)), E.fx, E.fr, E.dom, E.lks, E.o0⟩
  · by_cases e : j = i
    · subst e
      have ij : j ∈ S.ow := (ho j).mpr (.inl rfl)
      obtain ⟨a, h1, h2, h3, _⟩ := E.own j d ij hd
      refine ⟨_, h1, (h2.adv (sub_ra sub) rfl).rep fun z => ?_⟩
      rcases z with z | ⟨k, g1, g2, g3⟩
      · exact (h3 hf).2 z
      · have := E.dis k j a ((ho k).mpr (.inr g1)) ij g2 hl g3 h1
        subst this
        exact hn g1
    · obtain ⟨v, h1, h2⟩ := E.sh j d (fun z => ((ho j).mp z).elim e hj) hd
      exact ⟨v, h1, h2.adv (sub_ra sub)⟩
  · obtain ⟨a, h1, h2, h3⟩ := E.own j d ((ho j).mpr (.inr hj)) hd
    exact ⟨a, h1, h2.adv (sub_ra sub) rfl, h3⟩
theorem ER.thaw {K : PySem.W.Frag} {C : EC} {σ : St} {H : Hp} {ρ : Env} {i : Nat} {ow' : List Nat} (E : ER K { S with ow := ow' } C σ H ρ) (ho : ∀ j, j ∈ S.ow ↔ j = i ∨ j ∈ ow') : ER K S C σ H (st ρ i none) := by
  have sub : ∀ a, C.O S σ (st ρ i none) a → C.O { S with ow := ow' } σ ρ a := fun a z => z.imp id (M_thaw (C := C) ho)
  have ne : ∀ {j d}, gt (st ρ i none) j = some d → j ≠ i ∧ gt ρ j = some d := fun {j d} h => by
    by_cases e : j = i
    · subst e; rw [gt_st_none] at h; cases h
    · rw [gt_st_ne ρ i j _ e] at h; exact ⟨e, h⟩
  refine ⟨by rw [st_length]; exact E.len, fun j d hj hd => ?_, fun j d hj hd => ?_, fun j k a hj hk h1 h2 => ?_, E.fx, E.fr, E.dom, E.lks, E.o0⟩
  · obtain ⟨_, hd⟩ := ne hd
    obtain ⟨v, h1, h2⟩ := E.sh j d (fun z => hj ((ho j).mpr (.inr z))) hd
    exact ⟨v, h1, h2.adv (sub_ra sub)⟩
  · obtain ⟨e, hd⟩ := ne hd
    obtain ⟨a, h1, h2, h3⟩ := E.own j d (((ho j).mp hj).resolve_left e) hd
    exact ⟨a, h1, h2.adv (sub_ra sub) rfl, h3⟩
  · obtain ⟨d1, q1⟩ := gt_some h1
    obtain ⟨d2, q2⟩ := gt_some h2
    obtain ⟨e1, q1⟩ := ne q1
    obtain ⟨e2, q2⟩ := ne q2
    exact E.dis j k a (((ho j).mp hj).resolve_left e1) (((ho k).mp hk).resolve_left e2) (some_ne q1) (some_ne q2)
theorem eb_frz {i : Nat} {ow' : List Nat} {rest : List Stmt} {f : SS} (ho : ∀ j, j ∈ S.ow ↔ j = i ∨ j ∈ ow') (hn : i ∉ ow') (hf : i ∉ S.fx) (h : EvB X { S with ow := ow' } W rest f) : EvB X S W rest (bFrz i f) := by
  obtain ⟨t, p, q⟩ := h
  refine ⟨t, p, fun C σ H ρ D E w => ?_⟩
  obtain ⟨lv, w1⟩ := gd_wp w
  have hl : gt ρ i ≠ none := fun e => by
    unfold isLive at lv
    rw [e] at lv
    cases lv
  have sub : ∀ {σ' : St} {ρ' : Env}, ∀ a, C.O S σ' (st ρ' i none) a → C.O { S with ow := ow' } σ' ρ' a := fun {σ' ρ'} a z => z.imp id (M_thaw (C := C) ho)
  refine q C σ H ρ D (E.frz ho hn hf hl) ((Wp.bind w1).mono (fun c pl hx d σ' H' ρ' E' pay => ?_) fun r _ w2 σ' H' E' A' => ?_)
  · refine hx d σ' H' (st ρ' i none) (E'.thaw ho) fun f hf => ?_
    obtain ⟨dx, v, e1, e2, rp⟩ := pay f hf
    exact ⟨dx, v, e1, e2, rp.adv (sub_ra sub)⟩
  · have A : Adv (C.mo S σ ρ) H (C.mo S σ' (st r.2 i none)) H' := by
      refine ⟨fun a u na h => A'.st a u (fun z => na (M_frz (C := C) ho z)) h, fun a m => ?_, fun a m => ?_, A'.dm⟩
      · exact (A'.mn a (M_thaw (C := C) ho m)).imp (M_frz (C := C) ho) id
      · exact (A'.on a (sub a m)).imp (fun z => z.imp id (M_frz (C := C) ho)) id
    have q2 := w2 σ' H' (E'.thaw ho) A
    obtain ⟨fl, ρ1⟩ := r
    cases fl with
    | nx => exact q2
    | brk => exact q2
    | cont => exact q2
    | ret d => exact fun v rp => q2 v (rp.adv (sub_ra sub))
end
end EV

namespace EV
open PySem PySem.Spec L2 SX
open PyProof.Rows hiding St

section
variable {X : Cx} {S : ES} {W : WX} {pos : Pos}
/-! ### what is not reached -/
def sNo : SS := fun _ => .stuck
def eNo : SE := fun _ => .stuck
theorem es_no {s : Stmt} : EvS X S W s sNo := ⟨fun _ _ _ => False, ⟨fun _ _ _ _ _ _ h => h.elim⟩, fun _ _ _ _ _ _ w => w⟩
theorem ev_no {e : Expr} : EvE X S W e eNo := ⟨fun _ _ _ => False, ⟨fun _ _ _ _ _ _ h => h.elim⟩, fun _ _ _ _ _ _ w => w⟩

/-! ### stores, by the statement's reading -/
abbrev SemE (X : Cx) (S : ES) (W : WX) (t : TE) (f : SE) : Prop := ∀ (C : EC) (σ : St) (H : Hp) (ρ : Env) (Q : VK), ER X.K S C σ H ρ →
    Wp (f ρ) (XOk X.K S W C) (fun r => ∀ v H', ER X.K S C σ H' r.2 → Adv (C.mo S σ ρ) H (C.mo S σ r.2) H' → RV X.K S C σ H' r.2 v r.1 → Q v H') → t σ H Q
abbrev SemF (X : Cx) (S : ES) (W : WX) (t : TE) (f : Env → Res (D × Env)) : Prop := ∀ (C : EC) (σ : St) (H : Hp) (ρ : Env) (Q : VK), ER X.K S C σ H ρ →
    Wp (f ρ) (XOk X.K S W C) (fun r => ∀ p H', H p = none → ¬ C.O S σ r.2 p → ER X.K S (C.pl [p]) σ H' r.2 → Adv (C.mo S σ ρ) H (C.mo S σ r.2) H' → OwnAt X.K S.T ((C.pl [p]).O S σ r.2) H' p r.1 → Q (.ref p) H') → t σ H Q
theorem SemF.e {t : TE} {f : Env → Res (D × Env)} (q : SemF X S W t f) : SemE X S W t (eF f) := fun C σ H ρ Q E w =>
  q C σ H ρ _ E ((Wp.bind w).mono (fun _ _ h => h) fun r1 _ w1 p H1 h0 no E1 A1 ow => w1 _ H1 E1.unplus A1 ((ow.adv ra_unplus rfl).rep no))
theorem es_setP {s : Stmt} {t : TE} {i : Nat} {f : SE} (ps : PS X s (tAsg t (gName i))) (q : SemE X S W t f) (ho : i ∉ S.ow) (hfx : i ∉ S.fx) : EvS X S W s (sSet i f) := by
  refine ⟨_, ps, fun C σ H ρ D E w => ?_⟩
  refine q C σ H ρ _ E ((Wp.bind w).mono (fun _ _ h => h) fun r1 _ w1 v H1 E1 A1 R1 => ?_)
  obtain ⟨d, ed, w2⟩ := opt_wp w1
  exact w2 _ H1 (E1.set_sh ho hfx (R1.val ed)) (adv_set_sh ho A1)
theorem es_setFP {s : Stmt} {t : TE} {i : Nat} {f : Env → Res (D × Env)} (ps : PS X s (tAsg t (gName i))) (q : SemF X S W t f) (ho : i ∈ S.ow) (hfx : i ∉ S.fx) : EvS X S W s (sSetF i f) := by
  refine ⟨_, ps, fun C σ H ρ D E w => ?_⟩
  refine q C σ H ρ _ E ((Wp.bind w).mono (fun _ _ h => h) fun r1 _ w1 p H1 h0 no E1 A1 how => ?_)
  have A2 : Adv (C.mo S σ ρ) H ((C.pl [p]).mo S σ r1.2) H1 := ⟨A1.st, A1.mn, fun a z => (O_plus.mp z).elim (A1.on a) fun e => .inr (e ▸ h0), A1.dm⟩
  have E2 := E1.set_ow (C := C) (ps := []) (d := r1.1) ho hfx (by simp) (E.h0 h0) no how
  have A3 := adv_set_ow (C := C) (ps := []) (i := i) (d := r1.1) A2 h0
  rw [EC.pl_nil] at E2 A3
  exact w1 _ H1 E2 A3
/-- name = [elt for tg in iter (if c)] on one line: the store is swapped in -/
theorem lc_parts {elt tg iter : Expr} {scope : Scope} {own : List (Str × Nat)} {ts : List Nat} {fi : Env → Res (List D × Env)} {g : D → Env → Res Env} {fe : SE} {i : Nat} {y : Str} {py spos : Pos} (hc : X.calm = true) (hN : X.N.Nodup) (ho : ∀ v, v ∈ own.map (·.2) → v ∉ S.ow) (hf : ∀ v, v ∈ own.map (·.2) → v ∉ S.fx) (hts : ∀ i, i ∈ ts → i ∈ own.map (·.2))
    (hy : X.N[i]? = some y) (hyl : X.env.scope.names.lookup y = some .local) (hk : X.env.scope.kind = .function) (hl : (py.line == pos.line) = true) (ha : (scope.names.any fun (n, k) => n == y && (k == .local || k == .cell)) = false)
    (hi : EvI X S W tg iter fi) (ok : BlkOk X.N X.env.scope scope own)
    (hg : ∀ (s : Shared) (H : Hp) (C : Addr) (cl : List (Str × Addr)) (fp : List Addr), EvG (X.blk s H scope (compEnvC scope cl C X.env) fp) S ts tg g)
    (he : ∀ (s : Shared) (H : Hp) (C : Addr) (cl : List (Str × Addr)) (fp : List Addr), EvE (X.blk s H scope (compEnvC scope cl C X.env) fp) S WF elt fe) (hs : ∀ x, foldedSetIterable iter X.env x = pure x := by intro _; rfl) :
    ∃ t, PS X (.Assign [.Name y py] (.ListComp elt [⟨tg, iter, [], 0⟩] scope pos) spos) (tAsg t (gName i)) ∧ SemF X S W t (fLc (own.map (·.2)) fi g cYes fe) := by
  obtain ⟨wi, pi, qi⟩ := hi
  refine ⟨_, ps_setLc hc hN hy hyl (sw_true hk hyl hl ha) pi ok (g := canG X.K S ts g) (tt := tYes) (te := canE X.K S WF fe) (fun s H C cl fp => (hg s H C cl fp).can) (fun _ _ _ _ _ => pts_nil) (fun s H C cl fp => (he s H C cl fp).can) hs, fun C σ H ρ Q E w => ?_⟩
  exact lc_can (cnd := cYes) ho hf hts qi (fun C σ H ρ Q E w => w H E (.refl _ _)) C σ H ρ Q E w
theorem lc_partsIf {elt tg iter c : Expr} {scope : Scope} {own : List (Str × Nat)} {ts : List Nat} {fi : Env → Res (List D × Env)} {g : D → Env → Res Env} {fc : Env → Res (Bool × Env)} {fe : SE} {i : Nat} {y : Str} {py spos : Pos} (hc : X.calm = true) (hN : X.N.Nodup) (ho : ∀ v, v ∈ own.map (·.2) → v ∉ S.ow) (hf : ∀ v, v ∈ own.map (·.2) → v ∉ S.fx) (hts : ∀ i, i ∈ ts → i ∈ own.map (·.2))
    (hy : X.N[i]? = some y) (hyl : X.env.scope.names.lookup y = some .local) (hk : X.env.scope.kind = .function) (hl : (py.line == pos.line) = true) (ha : (scope.names.any fun (n, k) => n == y && (k == .local || k == .cell)) = false)
    (hi : EvI X S W tg iter fi) (ok : BlkOk X.N X.env.scope scope own)
    (hg : ∀ (s : Shared) (H : Hp) (C : Addr) (cl : List (Str × Addr)) (fp : List Addr), EvG (X.blk s H scope (compEnvC scope cl C X.env) fp) S ts tg g)
    (ht : ∀ (s : Shared) (H : Hp) (C : Addr) (cl : List (Str × Addr)) (fp : List Addr), EvT (X.blk s H scope (compEnvC scope cl C X.env) fp) S WF c fc)
    (he : ∀ (s : Shared) (H : Hp) (C : Addr) (cl : List (Str × Addr)) (fp : List Addr), EvE (X.blk s H scope (compEnvC scope cl C X.env) fp) S WF elt fe) (hs : ∀ x, foldedSetIterable iter X.env x = pure x := by intro _; rfl) :
    ∃ t, PS X (.Assign [.Name y py] (.ListComp elt [⟨tg, iter, [c], 0⟩] scope pos) spos) (tAsg t (gName i)) ∧ SemF X S W t (fLc (own.map (·.2)) fi g fc fe) := by
  obtain ⟨wi, pi, qi⟩ := hi
  refine ⟨_, ps_setLc hc hN hy hyl (sw_true hk hyl hl ha) pi ok (g := canG X.K S ts g) (tt := canT X.K S WF fc) (te := canE X.K S WF fe) (fun s H C cl fp => (hg s H C cl fp).can) (fun s H C cl fp => pts_one (ht s H C cl fp).can) (fun s H C cl fp => (he s H C cl fp).can) hs, fun C σ H ρ Q E w => ?_⟩
  exact lc_can ho hf hts qi (fun C σ H ρ Q E w => ⟨C, ρ, E, w⟩) C σ H ρ Q E w
theorem es_setLc {s : Stmt} {i : Nat} {f} (h : ∃ t, PS X s (tAsg t (gName i)) ∧ SemF X S W t f) (ho : i ∉ S.ow) (hfx : i ∉ S.fx) : EvS X S W s (sSet i (eF f)) := let ⟨_, p, q⟩ := h; es_setP p q.e ho hfx
theorem es_setLcF {s : Stmt} {i : Nat} {f} (h : ∃ t, PS X s (tAsg t (gName i)) ∧ SemF X S W t f) (ho : i ∈ S.ow) (hfx : i ∉ S.fx) : EvS X S W s (sSetF i f) := let ⟨_, p, q⟩ := h; es_setFP p q ho hfx

/-! ### a, b (, c) = .., values and new objects -/
def RQ (K : PySem.W.Frag) (T : Nat → Option Addr) (O : Addr → Prop) (H : Hp) : List V → List (Bool × D) → List Addr → Prop
  | [], [], [] => True
  | v :: vs, (false, d) :: xs, ps => Rep K T O H v d ∧ RQ K T O H vs xs ps
  | v :: vs, (true, d) :: xs, p :: ps => v = .ref p ∧ OwnAt K T O H p d ∧ RQ K T O H vs xs ps
  | _, _, _ => False
theorem RQ.down {K : PySem.W.Frag} {T : Nat → Option Addr} {O O' : Addr → Prop} {H : Hp} (sub : ∀ a, O' a → O a) : ∀ {vs : List V} {xs : List (Bool × D)} {ps : List Addr}, RQ K T O H vs xs ps → RQ K T O' H vs xs ps
  | [], [], [], _ => trivial
  | v :: vs, (false, d) :: xs, ps, h => ⟨h.1.adv (sub_ra sub), RQ.down sub h.2⟩
  | v :: vs, (true, d) :: xs, p :: ps, h => ⟨h.1, h.2.1.adv (sub_ra sub) rfl, RQ.down sub h.2.2⟩
  | [], [], _ :: _, h => h.elim
  | [], _ :: _, _, h => h.elim
  | _ :: _, [], _, h => h.elim
  | _ :: _, (true, _) :: _, [], h => h.elim
def EvQ (X : Cx) (S : ES) (W : WX) (es : List Expr) (f : Env → Res (List (Bool × D) × Env)) : Prop :=
  ∃ t : TA, PA X es t ∧ ∀ (C : EC) (σ : St) (H : Hp) (ρ : Env) (Q : List V → Hp → Prop), ER X.K S C σ H ρ →
    Wp (f ρ) (XOk X.K S W C) (fun r => ∀ vs ps H', (∀ p, p ∈ ps → H p = none ∧ ¬ C.O S σ r.2 p) → ps.Nodup → ER X.K S (C.pl ps) σ H' r.2 → Adv (C.mo S σ ρ) H (C.mo S σ r.2) H' → RQ X.K S.T ((C.pl ps).O S σ r.2) H' vs r.1 ps → Q vs H') → t σ H Q
def qNil : Env → Res (List (Bool × D) × Env) := fun ρ => .ok ([], ρ)
def qVal (f : SE) (fs : Env → Res (List (Bool × D) × Env)) : Env → Res (List (Bool × D) × Env) := fun ρ => f ρ >>= fun r1 => ofOpt (valOf r1.1) >>= fun d => fs r1.2 >>= fun r2 => .ok ((false, d) :: r2.1, r2.2)
def qNew (f : Env → Res (D × Env)) (fs : Env → Res (List (Bool × D) × Env)) : Env → Res (List (Bool × D) × Env) := fun ρ => f ρ >>= fun r1 => fs r1.2 >>= fun r2 => .ok ((true, r1.1) :: r2.1, r2.2)
theorem eq_nil : EvQ X S W [] qNil := ⟨_, pa_nil, fun C σ H ρ Q E w => w [] [] H (fun _ h => nomatch h) List.nodup_nil (by rw [EC.pl_nil]; exact E) (.refl _ _) trivial⟩
variable {e : Expr} {es : List Expr}
theorem eq_val {f : SE} {fs} (ha : EvE X S W e f) (hr : EvQ X S W es fs) (hs : starEach (e :: es) X.env = (false, eval e X.env) :: starEach es X.env := by rfl) : EvQ X S W (e :: es) (qVal f fs) := by
  obtain ⟨ta, pa, qa⟩ := ha
  obtain ⟨tr, pr, qr⟩ := hr
  refine ⟨_, pa_cons pa pr hs, fun C σ H ρ Q E w => ?_⟩
  refine qa C σ H ρ _ E ((Wp.bind w).mono (fun _ _ h => h) fun r1 _ w1 v1 H1 E1 A1 R1 => ?_)
  obtain ⟨d, ed, w2⟩ := opt_wp w1
  refine qr C σ H1 r1.2 _ E1 ((Wp.bind w2).mono (fun _ _ h => h) fun r2 _ w3 vs ps H2 hp nd E2 A2 R2 => ?_)
  have ra : RA (C.O S σ r1.2) H1 ((C.pl ps).O S σ r2.2) H2 := ⟨A2.ra.st, fun a z => (O_pl.mp z).elim (A2.on a) fun m => .inr (hp a m).1, A2.dm⟩
  exact w3 (v1 :: vs) ps H2 (fun p m => ⟨A1.back (hp p m).1, (hp p m).2⟩) nd E2 (A1.trans A2) ⟨(R1.val ed).adv ra, R2⟩
theorem eq_new {f : Env → Res (D × Env)} {fs} (ha : EvF X S W e f) (hr : EvQ X S W es fs) (hs : starEach (e :: es) X.env = (false, eval e X.env) :: starEach es X.env := by rfl) : EvQ X S W (e :: es) (qNew f fs) := by
  obtain ⟨ta, pa, qa⟩ := ha
  obtain ⟨tr, pr, qr⟩ := hr
  refine ⟨_, pa_cons pa pr hs, fun C σ H ρ Q E w => ?_⟩
  refine qa C σ H ρ _ E ((Wp.bind w).mono (fun _ _ h => h) fun r1 _ w1 p H1 h0 no E1 A1 ow => ?_)
  refine qr (C.pl [p]) σ H1 r1.2 _ E1 ((Wp.bind w1).mono (fun c pl hx d σ' H' ρ' E' pay => hx d σ' H' ρ' E'.unplus fun f hf => ?_) fun r2 _ w2 vs ps H2 hp nd E2 A2 R2 => ?_)
  · obtain ⟨dx, v, e1, e2, rp⟩ := pay f hf
    exact ⟨dx, v, e1, e2, rp.adv ra_unplus⟩
  · have h1 : H1 p ≠ none := by
      obtain ⟨u, hu, _⟩ := ow.mut
      exact some_ne hu
    have nM : ¬ EC.M S σ r1.2 p := fun m => by
      obtain ⟨j, g1, g2, g3⟩ := m
      obtain ⟨d, hd⟩ := gt_some g2
      obtain ⟨a, k1, k2, k3, k4⟩ := E1.own j d g1 hd
      rw [g3] at k1
      obtain rfl : p = a := V.ref.inj (Option.some.inj (Option.some.inj k1))
      rcases k4 with k4 | k4
      · -- a lent address was there at the start
        exact no (.inr ⟨j, g1, g2, g3⟩)
      · exact k4.2 (.inr (List.mem_singleton.mpr rfl))
    have nps : p ∉ ps := fun m => h1 (hp p m).1
    have keep : H2 p = H1 p := by
      obtain ⟨u, hu, _⟩ := ow.mut
      exact (A2.st p u nM hu).trans hu.symm
    rw [EC.pl_pl] at E2 R2
    have ra : RA ((C.pl [p]).O S σ r1.2) H1 ((C.pl (p :: ps)).O S σ r2.2) H2 := by
      refine ⟨A2.ra.st, fun a z => ?_, A2.dm⟩
      rcases O_pl.mp z with z | z
      · exact A2.on a (O_plus.mpr (.inl z))
      · rcases List.mem_cons.mp z with rfl | z
        · exact .inl (O_plus.mpr (.inr rfl))
        · exact .inr (hp a z).1
    have no2 : ¬ C.O S σ r2.2 p := fun z => by
      rcases z with z | z
      · exact no (.inl z)
      · rcases A2.mn p z with m | m
        · exact nM m
        · exact h1 m
    have A3 : Adv (C.mo S σ ρ) H (C.mo S σ r2.2) H2 := by
      refine ⟨fun a u na h => A2.st a u (fun z => ?_) (A1.st a u na h), fun a z => ?_, fun a z => ?_, fun a h => A2.dm a (A1.dm a h)⟩
      · rcases A1.mn a z with z | z
        · exact na z
        · rw [h] at z; cases z
      · rcases A2.mn a z with z | z
        · exact A1.mn a z
        · exact .inr (A1.back z)
      · rcases A2.on a (O_pl.mpr (.inl z)) with z2 | z2
        · rcases O_plus.mp z2 with z2 | z2
          · exact A1.on a z2
          · subst z2; exact absurd z no2
        · exact .inr (A1.back z2)
    refine w2 (.ref p :: vs) (p :: ps) H2 (fun a m => ?_) (List.nodup_cons.mpr ⟨nps, nd⟩) E2 A3 ⟨rfl, ow.adv ra keep, R2⟩
    rcases List.mem_cons.mp m with rfl | m
    · exact ⟨h0, no2⟩
    · exact ⟨A1.back (hp a m).1, fun z => (hp a m).2 (O_plus.mpr (.inl z))⟩
end
end EV

namespace EV
open PySem PySem.Spec L2 SX
open PyProof.Rows hiding St
def stsQ : Env → List (Nat × Bool) → List (Bool × D) → Option Env
  | ρ, [], [] => some ρ
  | ρ, (i, b) :: is, (b', d) :: xs => bif b == b' then stsQ (st ρ i (some d)) is xs else none
  | _, _, _ => none
def setAll : St → List (Nat × Bool) → List V → St
  | σ, (i, _) :: is, v :: vs => setAll (σ.set i (some v)) is vs
  | σ, _, _ => σ
/-- what is stored owns as its slot does -/
def OkT (S : ES) (is : List (Nat × Bool)) : Prop := ∀ i b, (i, b) ∈ is → i ∉ S.fx ∧ (b = true → i ∈ S.ow) ∧ (b = false → i ∉ S.ow)
theorem stores {K : PySem.W.Frag} {S : ES} {C : EC} {H : Hp} : ∀ {is : List (Nat × Bool)} {vs : List V} {xs : List (Bool × D)} {ps : List Addr} {σ : St} {ρ ρ' : Env}, OkT S is → ER K S (C.pl ps) σ H ρ → RQ K S.T ((C.pl ps).O S σ ρ) H vs xs ps → (∀ p, p ∈ ps → C.H0 p = none ∧ ¬ C.O S σ ρ p) → ps.Nodup → stsQ ρ is xs = some ρ' →
    ER K S C (setAll σ is vs) H ρ' ∧ ∀ (m : MO) (H0 : Hp), Adv m H0 ((C.pl ps).mo S σ ρ) H → (∀ p, p ∈ ps → H0 p = none) → Adv m H0 (C.mo S (setAll σ is vs) ρ') H
  | [], vs, xs, ps, σ, ρ, ρ', _, E, R, _, _, e => by
    cases xs with
    | cons x xs => cases e
    | nil =>
      cases e
      cases vs with
      | cons v vs => exact R.elim
      | nil =>
        cases ps with
        | cons p ps => exact R.elim
        | nil =>
          rw [EC.pl_nil] at E
          refine ⟨E, fun m H0 A _ => ?_⟩
          rw [EC.pl_nil] at A
          exact A
  | (i, b) :: is, vs, xs, ps, σ, ρ, ρ', ok, E, R, hp, nd, e => by
    cases xs with
    | nil => cases e
    | cons x xs =>
      obtain ⟨b', d⟩ := x
      have e' : (bif b == b' then stsQ (st ρ i (some d)) is xs else none) = some ρ' := e
      have bb : b = b' := by
        cases q : (b == b') with
        | true => exact eq_of_beq q
        | false => rw [q] at e'; cases e'
      subst bb
      rw [beq_self_eq_true] at e'
      have e' : stsQ (st ρ i (some d)) is xs = some ρ' := e'
      have ok' : OkT S is := fun j c hm => ok j c (List.mem_cons_of_mem _ hm)
      obtain ⟨nf, o1, o2⟩ := ok i b List.mem_cons_self
      cases vs with
      | nil => cases b <;> exact R.elim
      | cons v vs =>
        cases b with
        | false =>
          have ho := o2 rfl
          have E1 := E.set_sh ho nf R.1
          have sub : ∀ a, (C.pl ps).O S (σ.set i (some v)) (st ρ i (some d)) a → (C.pl ps).O S σ ρ a := fun a z => z.imp id (M_set_sh ho)
          obtain ⟨E2, A2⟩ := stores ok' E1 (R.2.down sub) (fun p m => ⟨(hp p m).1, fun z => (hp p m).2 (z.imp id (M_set_sh ho))⟩) nd e'
          exact ⟨E2, fun m H0 A h0 => A2 m H0 (adv_set_sh ho A) h0⟩
        | true =>
          have ho := o1 rfl
          cases ps with
          | nil => exact R.elim
          | cons p ps =>
            obtain ⟨rfl, how, R'⟩ := R
            obtain ⟨np, nd'⟩ := List.nodup_cons.mp nd
            have hpp := hp p List.mem_cons_self
            have E1 := E.set_ow (C := C) ho nf np hpp.1 hpp.2 how
            have sub : ∀ a, (C.pl ps).O S (σ.set i (some (.ref p))) (st ρ i (some d)) a → (C.pl (p :: ps)).O S σ ρ a := fun a z => by
              rcases z with z | z
              · exact .inl (z.imp id fun m => List.mem_cons_of_mem _ m)
              · rcases M_set_ow z with z | rfl
                · exact .inr z
                · exact .inl (.inr List.mem_cons_self)
            obtain ⟨E2, A2⟩ := stores ok' E1 (R'.down sub) (fun a m => ⟨(hp a (List.mem_cons_of_mem _ m)).1, fun z => by
              rcases z with z | z
              · exact (hp a (List.mem_cons_of_mem _ m)).2 (.inl z)
              · rcases M_set_ow z with z | rfl
                · exact (hp a (List.mem_cons_of_mem _ m)).2 (.inr z)
                · exact np m⟩) nd' e'
            exact ⟨E2, fun m H0 A h0 => A2 m H0 (adv_set_ow A (h0 p List.mem_cons_self)) fun a ha => h0 a (List.mem_cons_of_mem _ ha)⟩
section
variable {X : Cx} {S : ES} {W : WX} {pos : Pos}
def sPar (is : List (Nat × Bool)) (fq : Env → Res (List (Bool × D) × Env)) : SS := fun ρ => fq ρ >>= fun r => ofOpt (stsQ r.2 is r.1) >>= fun ρ' => .ok (.nx, ρ')
theorem stsQ_len : ∀ {is : List (Nat × Bool)} {xs : List (Bool × D)} {ρ ρ' : Env}, stsQ ρ is xs = some ρ' → xs.length = is.length
  | [], [], _, _, _ => rfl
  | [], _ :: _, _, _, e => nomatch e
  | _ :: _, [], _, _, e => nomatch e
  | (i, b) :: is, (b', d) :: xs, ρ, ρ', e => by
    have e' : (bif b == b' then stsQ (st ρ i (some d)) is xs else none) = some ρ' := e
    cases q : (b == b') with
    | true => rw [q] at e'; exact congrArg (· + 1) (stsQ_len e')
    | false => rw [q] at e'; cases e'
theorem RQ.length {K : PySem.W.Frag} {T : Nat → Option Addr} {O : Addr → Prop} {H : Hp} : ∀ {vs : List V} {xs : List (Bool × D)} {ps : List Addr}, RQ K T O H vs xs ps → vs.length = xs.length
  | [], [], [], _ => rfl
  | v :: vs, (false, d) :: xs, ps, h => congrArg (· + 1) (RQ.length h.2)
  | v :: vs, (true, d) :: xs, p :: ps, h => congrArg (· + 1) (RQ.length h.2.2)
  | [], [], _ :: _, h => h.elim
  | [], _ :: _, _, h => h.elim
  | _ :: _, [], _, h => h.elim
  | _ :: _, (true, _) :: _, [], h => h.elim
theorem es_par2 {i j : Nat} {b1 b2 : Bool} {x y : Str} {a b : Expr} {px py pt : Pos} {kt k2 pt2} {fq} (ok : OkT S [(i, b1), (j, b2)]) (hc : X.calm = true) (hN : X.N.Nodup) (hi : X.N[i]? = some x) (hj : X.N[j]? = some y) (hij : i ≠ j)
    (hx : X.env.scope.names.lookup x = some .local) (hy : X.env.scope.names.lookup y = some .local) (ha : EvQ X S W [a, b] fq)
    (hw : swappedStores [.Tuple [.Name x px, .Name y py] kt pt] (.Tuple [a, b] k2 pt2) X.env = pure (some [x, y]))
    (hs : swapsWithSole [.Tuple [.Name x px, .Name y py] kt pt] (.Tuple [a, b] k2 pt2) pos.line X.env = pure false := by rfl) :
    EvS X S W (.Assign [.Tuple [.Name x px, .Name y py] kt pt] (.Tuple [a, b] k2 pt2) pos) (sPar [(i, b1), (j, b2)] fq) := by
  obtain ⟨t, p, q⟩ := ha
  refine ⟨_, ps_par hc hN hi hj hij hx hy p hw hs, fun C σ H ρ D E w => ?_⟩
  refine q C σ H ρ _ E ((Wp.bind w).mono (fun _ _ h => h) fun r1 _ w1 vs ps H1 hp nd E1 A1 R1 => ?_)
  obtain ⟨ρ', e1, w2⟩ := opt_wp w1
  have hl := R1.length.trans (stsQ_len e1)
  match vs, hl, R1 with
  | [v, u], _, R1 =>
    obtain ⟨E2, A2⟩ := stores ok E1 R1 (fun p m => ⟨E.h0 (hp p m).1, (hp p m).2⟩) nd e1
    refine ⟨v, u, rfl, w2 _ H1 E2 (A2 _ H ⟨A1.st, A1.mn, fun a z => (O_pl.mp z).elim (A1.on a) fun m => .inr (hp a m).1, A1.dm⟩ fun p m => (hp p m).1)⟩
theorem es_par3 {i j l : Nat} {b1 b2 b3 : Bool} {x y z : Str} {a b c : Expr} {px py pz pt : Pos} {kt k2 pt2} {fq} (ok : OkT S [(i, b1), (j, b2), (l, b3)]) (hc : X.calm = true) (hN : X.N.Nodup) (hi : X.N[i]? = some x) (hj : X.N[j]? = some y) (hk : X.N[l]? = some z) (hij : i ≠ j) (hil : i ≠ l) (hjl : j ≠ l)
    (hx : X.env.scope.names.lookup x = some .local) (hy : X.env.scope.names.lookup y = some .local) (hz : X.env.scope.names.lookup z = some .local) (ha : EvQ X S W [a, b, c] fq)
    (hw : swappedStores [.Tuple [.Name x px, .Name y py, .Name z pz] kt pt] (.Tuple [a, b, c] k2 pt2) X.env = pure (some [x, y, z]))
    (hs : swapsWithSole [.Tuple [.Name x px, .Name y py, .Name z pz] kt pt] (.Tuple [a, b, c] k2 pt2) pos.line X.env = pure false := by rfl) :
    EvS X S W (.Assign [.Tuple [.Name x px, .Name y py, .Name z pz] kt pt] (.Tuple [a, b, c] k2 pt2) pos) (sPar [(i, b1), (j, b2), (l, b3)] fq) := by
  obtain ⟨t, p, q⟩ := ha
  refine ⟨_, ps_par3 hc hN hi hj hk hij hil hjl hx hy hz p hw hs, fun C σ H ρ D E w => ?_⟩
  refine q C σ H ρ _ E ((Wp.bind w).mono (fun _ _ h => h) fun r1 _ w1 vs ps H1 hp nd E1 A1 R1 => ?_)
  obtain ⟨ρ', e1, w2⟩ := opt_wp w1
  have hl := R1.length.trans (stsQ_len e1)
  match vs, hl, R1 with
  | [v, u, w'], _, R1 =>
    obtain ⟨E2, A2⟩ := stores ok E1 R1 (fun p m => ⟨E.h0 (hp p m).1, (hp p m).2⟩) nd e1
    refine ⟨v, u, w', rfl, w2 _ H1 E2 (A2 _ H ⟨A1.st, A1.mn, fun a z => (O_pl.mp z).elim (A1.on a) fun m => .inr (hp a m).1, A1.dm⟩ fun p m => (hp p m).1)⟩

/-! ### a def that returns a new list -/
def EvBF (X : Cx) (S : ES) (W : WX) (s : List Stmt) (f : Env → Res (D × Env)) : Prop :=
  ∃ t : TS, PSs X s t ∧ ∀ (C : EC) (σ : St) (H : Hp) (ρ : Env) (D : Ends), ER X.K S C σ H ρ →
    Wp (f ρ) (XOk X.K S W C) (fun r => ∀ σ' p H', H p = none → ¬ C.O S σ' r.2 p → ER X.K S (C.pl [p]) σ' H' r.2 → Adv (C.mo S σ ρ) H (C.mo S σ' r.2) H' → OwnAt X.K S.T ((C.pl [p]).O S σ' r.2) H' p r.1 → D.rt (.ref p) H') → t D σ H
theorem ef_ret {e : Expr} {f} (h : EvF X S W e f) : EvBF X S W [.Return (some e) pos] f := by
  obtain ⟨t, p, q⟩ := h
  refine ⟨_, pss_cons (ps_ret p) pss_nil, fun C σ H ρ D E w => ?_⟩
  exact q C σ H ρ _ E (w.mono (fun _ _ h => h) fun r1 _ w1 p H1 h0 no E1 A1 ow => w1 σ p H1 h0 no E1 A1 ow)
def fSeq (f : SS) (g : Env → Res (D × Env)) : Env → Res (D × Env) := fun ρ => f ρ >>= fun r => match r.1 with
  | .nx => g r.2
  | _ => .stuck
theorem ef_seq {stm : Stmt} {rest : List Stmt} {f : SS} {g} (h1 : EvS X S W stm f) (h2 : EvBF X S W rest g) : EvBF X S W (stm :: rest) (fSeq f g) := by
  obtain ⟨t1, p1, q1⟩ := h1
  obtain ⟨t2, p2, q2⟩ := h2
  refine ⟨_, pss_cons p1 p2, fun C σ H ρ D E w => ?_⟩
  refine q1 C σ H ρ _ E ((Wp.bind w).mono (fun _ _ h => h) fun r1 _ w1 σ1 H1 E1 A1 => ?_)
  obtain ⟨fl, ρ1⟩ := r1
  cases fl with
  | nx => exact q2 C σ1 H1 ρ1 D E1 (w1.mono (fun _ _ h => h) fun r2 _ w2 σ2 p H2 h0 no E2 A2 ow => w2 σ2 p H2 (A1.back h0) no E2 (A1.trans A2) ow)
  | brk => exact w1.elim
  | cont => exact w1.elim
  | ret d => exact w1.elim
structure FF where
  np : Nat
  m : List D → Res D
def spFF (K : PySem.W.Frag) (S0 : ES) (F : FF) : Sp := fun vs H Q E => ∃ (O : Addr → Prop) (ds : List D), vs.length = F.np ∧ OH O H ∧ ArgsR K S0.T O H [] 0 vs ds ∧
  Wp (F.m ds) (fun c p => ∀ d H', Ex H H' → Pay K S0 O H' c d p → E (S0.cls c) d H')
    (fun r => ∀ p H', H p = none → Ex H H' → OwnAt K S0.T (fun a => O a ∨ a = p) H' p r → Q (.ref p) H')
def runBF (n : Nat) (B : Env → Res (D × Env)) (ds : List D) : Res D := B (start0 n ds) >>= fun r => .ok r.1
end
theorem okT_of {S : ES} {is : List (Nat × Bool)} (h : is.all (fun z => !S.fx.contains z.1 && (z.2 == S.ow.contains z.1)) = true) : OkT S is := fun i b hm => by
  have := List.all_eq_true.mp h (i, b) hm
  rw [Bool.and_eq_true, Bool.not_eq_true', beq_iff_eq] at this
  obtain ⟨h1, h2⟩ := this
  refine ⟨fun hf => ?_, fun hb => ?_, fun hb hi => ?_⟩
  · rw [List.contains_iff_mem.mpr hf] at h1; cases h1
  · have h2 : b = S.ow.contains i := h2
    rw [hb] at h2
    exact List.contains_iff_mem.mp h2.symm
  · have h2 : b = S.ow.contains i := h2
    rw [hb, List.contains_iff_mem.mpr hi] at h2
    cases h2
theorem argsR_nil {K : PySem.W.Frag} {T : Nat → Option Addr} {O : Addr → Prop} {H : Hp} {k i : Nat} {vs : List V} {ds : List D} {d : D} (h : ArgsR K T O H [] k vs ds) (e : ds[i]? = some d) : ∃ v, vs[i]? = some v ∧ Rep K T O H v d := by
  obtain ⟨v, h1, h2⟩ := h.get e
  rw [if_neg (fun z => nomatch z)] at h2
  exact ⟨v, h1, h2⟩
theorem fn_evF {P : Program} {w : World} {K : PySem.W.Frag} {mg : Str → Option Value} {base : Heap} {x qual : Str} {stm : Stmt} {f : Addr} {fd : FuncData} {N ps : List Str} {k : Nat} {S0 : ES} {ow : List Nat} {B : Env → Res (D × Env)} (F : Fun K x qual stm f fd) (Sc : FnScope N ps (defScope stm))
    (ho : ∀ i, i ∈ ow → ps.length ≤ i)
    (hbody : ∀ (cdv : Value) (A : Around) (outer : List PySem.Env) (s : Shared) (H : Hp) (E : XK), Room k (A.deeper (envOfC qual (defScope stm) s.heap.objs.size f cdv)) →
      Takes (cxOf (L2.CX P w) P w K mg base N qual (defScope stm) f cdv A outer s H E) (fun cls d _ H => E cls d H) →
      EvBF (cxOf (L2.CX P w) P w K mg base N qual (defScope stm) f cdv A outer s H E) { S0 with ow := ow, fx := [] } (fun cls d _ H => E cls d H) (defBody stm) B) :
    FnOk P w K mg base (L2.CX P w) (k + 1) f fd ps (spFF K S0 ⟨ps.length, runBF N.length B⟩) := by
  refine F.okX Sc (fun vs H Q E h => ?_) fun cdv A outer s H vs Q E hr h => ?_
  · obtain ⟨O, ds, hl, _⟩ := h
    exact hl
  · obtain ⟨O, ds, hl, oh, ar, hw⟩ := h
    have hl : vs.length = ps.length := hl
    have tk : Takes (cxOf (L2.CX P w) P w K mg base N qual (defScope stm) f cdv A outer s H E) (fun cls d _ H => E cls d H) := takes_of rfl rfl rfl rfl
    obtain ⟨t, p, q⟩ := hbody cdv A outer s H E hr tk
    refine ⟨t, p, ?_⟩
    have hN : ps.length ≤ N.length := by
      have := congrArg List.length Sc.pre
      rw [List.length_take] at this
      omega
    have hds : ds.length = vs.length := ar.length.symm
    let S : ES := { S0 with ow := ow, fx := [] }
    let C : EC := ⟨H, O, fun _ => .non, fun _ => False, []⟩
    have noM : ∀ a, ¬ EC.M S (L2.start N vs) (start0 N.length ds) a := fun a ⟨i, h1, h2, h3⟩ => by
      obtain ⟨d, hd⟩ := gt_some h2
      have hd := gt_start0 hd
      have hi : i < ds.length := (List.getElem?_eq_some_iff.mp hd).1
      have := ho i h1
      omega
    have hO : C.O S (L2.start N vs) (start0 N.length ds) = O := by
      funext a
      exact propext ⟨fun z => z.elim id fun m => absurd m (noM a), .inl⟩
    have nol : ∀ {i d}, i ∈ ow → gt (start0 N.length ds) i = some d → False := fun {i d} hi hd => by
      have hd := gt_start0 hd
      have hil : i < ds.length := (List.getElem?_eq_some_iff.mp hd).1
      have := ho i hi
      omega
    have E0 : ER K S C (L2.start N vs) H (start0 N.length ds) := by
      refine ⟨?_, fun i d hi hd => ?_, fun i d hi hd => (nol hi hd).elim, fun i j a hi hj h1 h2 h3 h4 => ?_, fun i hi => (nomatch hi), fun a u h => .inr (.inl h), fun a h => h, fun a o u h => (nomatch h), oh⟩
      · unfold start0 L2.start
        rw [List.length_append, List.length_append, List.length_map, List.length_map, List.length_replicate, List.length_replicate, hds]
      · obtain ⟨v, h1, h2⟩ := argsR_nil ar (gt_start0 hd)
        rw [hO]
        exact ⟨v, start_at h1, h2⟩
      · obtain ⟨d, hd⟩ := gt_some h1
        exact (nol hi hd).elim
    have ex : ∀ {O' : Addr → Prop} {σ' : St} {H' : Hp} {ρ' : Env} , ER K S ⟨H, O', fun _ => .non, fun _ => False, []⟩ σ' H' ρ' → Ex H H' := fun {O' σ' H' ρ'} E' a u h => (E'.fr a u h).elim (fun z => z.elim) fun z => z.resolve_right fun ⟨o, m⟩ => nomatch m
    have lower : ∀ {σ' : St} {H' : Hp} {ρ' : Env}, RA (C.O S σ' ρ') H' O H' := sub_ra fun a h => .inl h
    refine q C _ H _ _ E0 ((Wp.bind (show Wp (runBF N.length B ds) _ _ from hw)).mono (fun c p hx d σ' H' ρ' E' pay => hx d H' (ex E') fun f hf => ?_) fun r1 e1 w1 σ1 p H1 h0 no E1 A1 own => ?_)
    · obtain ⟨dx, v, e1, e2, rp⟩ := pay f hf
      exact ⟨dx, v, e1, e2, rp.adv lower⟩
    · exact w1 p H1 h0 (ex E1) (own.adv (sub_ra fun a z => O_plus.mpr (z.imp .inl id)) rfl)
structure CalFF (P : Program) (w : World) (K : PySem.W.Frag) (mg : Str → Option Value) (base : Heap) (S0 : ES) (k : Nat) (x : Str) (F : FF) : Prop where
  ex : ∃ (f : Addr) (fd : FuncData) (ps : List Str), FnOk P w K mg base (L2.CX P w) k f fd ps (spFF K S0 F) ∧ mg x = some (.ref f) ∧ PySem.W.keepIn K (.ref f) = true ∧ Binds K fd ps []
section
variable {X : Cx} {S S0 : ES} {W : WX} {pos p : Pos} {F : FF} {x : Str} {k j : Nat} {e : Expr} {es : List Expr} {fs : Env → Res (List DV × Env)}
def fCall (F : FF) (fs : Env → Res (List DV × Env)) : Env → Res (D × Env) := fun ρ => fs ρ >>= fun r => ofOpt (vals r.1) >>= fun ds => gd (decide (ds.length = F.np)) >>= fun _ => F.m ds >>= fun d => .ok (d, r.2)
theorem argsR_of {K : PySem.W.Frag} {T : Nat → Option Addr} {O : Addr → Prop} {H : Hp} : ∀ {k : Nat} {vs : List V} {ds : List D}, Reps K T O H vs ds → ArgsR K T O H [] k vs ds
  | _, [], [], _ => trivial
  | _, _ :: _, _ :: _, .cons h1 h2 => ⟨by rw [if_neg (fun z => nomatch z)]; exact h1, argsR_of h2⟩
theorem ef_call (tk : Takes X W) (c : CalFF X.prog X.w X.K X.mg X.base S0 k x F) (hS : S0.T = S.T ∧ S0.cls = S.cls ∧ S0.fld = S.fld) (hr : Room j X.A) (hk : k ≤ j) (hg : Gl X x) (ha : EvA X S W (e :: es) fs)
    (hdb : (x == ("__debug__" : Str)) = false := by decide) (he : starEach (e :: es) X.env = (false, eval e X.env) :: starEach es X.env := by rfl) (hpl : (backTo pos (starEach es X.env)).any (·.1) = false := by rfl) :
    EvF X S W (.Call (.Name x p) (e :: es) [] pos) (fCall F fs) := by
  obtain ⟨f, fd, ps, G, hm, kp, b⟩ := c.ex
  obtain ⟨t, pt, q⟩ := ha
  refine ⟨_, pe_callS G (hr.mono hk) hg hm kp b (fun σ => passAt tk σ) pt hdb he hpl, fun C σ H ρ Q E w => ?_⟩
  refine q C σ H ρ _ E ((Wp.bind w).mono (fun _ _ h => h) fun r1 _ w1 vs H1 E1 A1 R1 => ?_)
  obtain ⟨ds, e1, w2⟩ := opt_wp w1
  obtain ⟨e2, w3⟩ := gd_wp w2
  have rs := R1.reps e1
  refine ⟨C.O S σ r1.2, ds, rs.length.trans (of_decide_eq_true e2), E1.omut, by rw [hS.1]; exact argsR_of rs, (Wp.bind w3).mono (fun c p hx d H' x pay => ?_) fun d _ w4 p H2 h0 x own => ?_⟩
  · show W (S0.cls c) d σ H'
    rw [hS.2.1]
    exact hx d σ H' r1.2 (E1.ext x) (pay.lift hS.2.2.symm hS.1.symm (E1.ext x).omut (.inr fun a z => z))
  · rw [hS.1] at own
    have O_eq : (C.pl [p]).O S σ r1.2 = fun a => C.O S σ r1.2 a ∨ a = p := funext fun a => propext O_plus
    -- the new object stands, nothing else has changed
    obtain ⟨u, hu, mu⟩ := own.mut
    have E2 : ER X.K S (C.pl [p]) σ H2 r1.2 := by
      have E2 := E1.ext x
      have h0p : ∀ a, C.H0 a ≠ none → a ≠ p := fun a h e => E1.dom a h (e ▸ h0)
      have av : RA (C.O S σ r1.2) H1 ((C.pl [p]).O S σ r1.2) H2 := ⟨fun a w _ h => x.rd h, fun a h => (O_plus.mp h).imp id fun (e : a = p) => by rw [e]; exact h0, x.dm⟩
      refine ⟨E1.len, fun i d hi hd => let ⟨v, h1, h2⟩ := E1.sh i d hi hd; ⟨v, h1, h2.adv av⟩, fun i d hi hd => ?_, E1.dis, E1.fx, E2.fr, E2.dom, E2.lks, fun a h => ?_⟩
      · obtain ⟨a, g1, g2, g3, g4⟩ := E1.own i d hi hd
        obtain ⟨w, hw, _⟩ := g2.mut
        have nap : a ≠ p := fun e => by rw [e, h0] at hw; cases hw
        exact ⟨a, g1, g2.adv av ((x a w hw).trans hw.symm), fun q => ⟨(g3 q).1, fun z => z.elim (g3 q).2 fun e => nap (by simpa using e)⟩, g4.imp id fun q => ⟨q.1, fun z => z.elim q.2 fun e => nap (by simpa using e)⟩⟩
      · rcases h with h | h
        · exact E2.o0 a h
        · obtain rfl : a = p := by simpa using h
          exact ⟨u, .inl hu, mu⟩
    refine w4 p H2 (A1.back h0) (fun z => E1.osome z h0) E2 (A1.trans x.adv) ?_
    rw [O_eq]
    exact own
end
end EV

namespace EV
open PySem PySem.Spec L2 SX
open PyProof.Rows hiding St

/-! ### sorted texts -/
def insS (x : List Nat) : List (List Nat) → List (List Nat)
  | [] => [x]
  | y :: r => bif ltCps y x then y :: insS x r else x :: y :: r
def sortS : List (List Nat) → List (List Nat)
  | [] => []
  | x :: r => insS x (sortS r)
theorem ltCps_lt : ∀ a b : List Nat, ltCps a b = decide (a < b)
  | [], [] => by simp [ltCps]
  | [], b :: t => by simp [ltCps]
  | a :: r, [] => by simp [ltCps]
  | a :: r, b :: t => by
    show (decide (a < b) || (a == b && ltCps r t)) = _
    rw [ltCps_lt r t]
    by_cases h : a < b
    · have : a :: r < b :: t := List.cons_lt_cons_iff.mpr (.inl h)
      rw [decide_eq_true h, decide_eq_true this]
      rfl
    · by_cases e : a = b
      · subst e
        rw [decide_eq_false h, beq_self_eq_true, Bool.false_or, Bool.true_and]
        congr 1
        exact propext ⟨fun z => List.cons_lt_cons_iff.mpr (.inr ⟨rfl, z⟩), fun z => (List.cons_lt_cons_iff.mp z).elim (fun z => absurd z h) fun z => z.2⟩
      · have : ¬ a :: r < b :: t := fun z => (List.cons_lt_cons_iff.mp z).elim h fun z => e z.1
        rw [decide_eq_false h, decide_eq_false this, beq_eq_false_iff_ne.mpr e]
        rfl
def leS (a b : List Nat) : Prop := ltCps b a = false
theorem leS_iff {a b : List Nat} : leS a b ↔ a ≤ b := by
  unfold leS
  rw [ltCps_lt, decide_eq_false_iff_not]
  exact List.not_lt
theorem leS_trans {a b c : List Nat} (h1 : leS a b) (h2 : leS b c) : leS a c := leS_iff.mpr (List.le_trans (leS_iff.mp h1) (leS_iff.mp h2))
theorem leS_antisymm {a b : List Nat} (h1 : leS a b) (h2 : leS b a) : a = b := List.le_antisymm (leS_iff.mp h1) (leS_iff.mp h2)
theorem leS_total (a b : List Nat) : leS a b ∨ leS b a := (List.le_total a b).imp leS_iff.mpr leS_iff.mpr
theorem insS_perm (x : List Nat) : ∀ l, (insS x l).Perm (x :: l)
  | [] => .refl _
  | y :: r => by
    show (bif ltCps y x then y :: insS x r else x :: y :: r).Perm _
    cases ltCps y x with
    | false => exact .refl _
    | true => exact ((insS_perm x r).cons y).trans (List.Perm.swap x y r)
theorem sortS_perm : ∀ l, (sortS l).Perm l
  | [] => .refl _
  | x :: r => (insS_perm x _).trans ((sortS_perm r).cons x)
theorem insS_pw (x : List Nat) : ∀ {l}, l.Pairwise leS → (insS x l).Pairwise leS
  | [], _ => List.pairwise_singleton _ _
  | y :: r, h => by
    obtain ⟨h1, h2⟩ := List.pairwise_cons.mp h
    show (bif ltCps y x then y :: insS x r else x :: y :: r).Pairwise leS
    cases q : ltCps y x with
    | false =>
      refine List.pairwise_cons.mpr ⟨fun z hz => ?_, h⟩
      have xy : leS x y := q
      rcases List.mem_cons.mp hz with rfl | hz
      · exact xy
      · exact leS_trans xy (h1 z hz)
    | true =>
      refine List.pairwise_cons.mpr ⟨fun z hz => ?_, insS_pw x h2⟩
      have yx : leS y x := (leS_total y x).elim id fun z => by
        unfold leS at z
        rw [z] at q
        cases q
      rcases List.mem_cons.mp ((insS_perm x r).mem_iff.mp hz) with rfl | hz
      · exact yx
      · exact h1 z hz
theorem sortS_pw : ∀ l, (sortS l).Pairwise leS
  | [] => .nil
  | x :: r => insS_pw x (sortS_pw r)
theorem risingS_pw : ∀ (p : List Nat) (l : List (List Nat)), risingS (SX.S p) (l.map SX.S) = true → (p :: l).Pairwise leS
  | p, [], _ => List.pairwise_singleton _ _
  | p, x :: r, h => by
    have h' : (!ltCps (SX.S x).cps.toList (SX.S p).cps.toList && risingS (SX.S x) (r.map SX.S)) = true := h
    rw [S_toList, S_toList, Bool.and_eq_true, Bool.not_eq_true'] at h'
    have ih := risingS_pw x r h'.2
    obtain ⟨h1, h2⟩ := List.pairwise_cons.mp ih
    refine List.pairwise_cons.mpr ⟨fun z hz => ?_, ih⟩
    rcases List.mem_cons.mp hz with rfl | hz
    · exact h'.1
    · exact leS_trans h'.1 (h1 z hz)
theorem sortedS_pw {l : List (List Nat)} (h : sortedS (l.map SX.S) = true) : l.Pairwise leS := by
  cases l with
  | nil => exact .nil
  | cons x r => exact risingS_pw x r h
theorem sortS_unique {l m : List (List Nat)} (hp : m.Perm l) (hs : m.Pairwise leS) : m = sortS l :=
  List.Perm.eq_of_pairwise (le := leS) (fun a b _ _ h1 h2 => leS_antisymm h1 h2) hs (sortS_pw l) (hp.trans (sortS_perm l).symm)
theorem map_S_perm {ys : List Str} {l : List (List Nat)} (h : ys.Perm (l.map SX.S)) : ∃ m : List (List Nat), ys = m.map SX.S ∧ m.Perm l := by
  refine ⟨ys.map fun y => y.cps.toList, ?_, ?_⟩
  · rw [List.map_map]
    exact (List.map_id'' (fun y => S_tl y) ys).symm
  · have := h.map fun y => y.cps.toList
    rw [List.map_map] at this
    have e : l.map ((fun y : Str => y.cps.toList) ∘ SX.S) = l := List.map_id'' (fun y => S_toList y) l
    rw [e] at this
    exact this
section
variable {X : Cx} {S : ES} {W : WX} {pos : Pos}
def bSort : List D → Option D
  | [.lst xs] => (dStrs xs).bind fun ss => if ss.length < 64 then some (.lst ((sortS ss).map D.str)) else none
  | _ => none
theorem cf_sort : CalF' X (.builtin "sorted") bSort := by
  refine ⟨_, cr_sortedS, fun T O H vs ds d Q oh rt e w => ?_⟩
  unfold bSort at e
  split at e
  · rename_i xs
    cases q : dStrs xs with
    | none => rw [q] at e; cases e
    | some ss =>
      rw [q] at e
      have e : (if ss.length < 64 then some (D.lst ((sortS ss).map D.str)) else none) = some d := e
      split at e
      · rename_i hl
        cases e
        obtain rfl := strs_eq q
        obtain ⟨v, rfl, h⟩ := rt.one
        obtain ⟨a, vs, rfl, h1, h2⟩ := h.lst
        obtain ⟨rfl, oks⟩ := h2.strs
        refine ⟨a, ss.map SX.S, rfl, .inl h1, by rw [List.length_map]; exact hl, fun ys p hp hs h0 => ?_⟩
        obtain ⟨m, rfl, hm⟩ := map_S_perm hp
        obtain rfl := sortS_unique hm (sortedS_pw hs)
        exact w p _ h0 ⟨_, rfl, Reps.ofStrs _ fun s hs => oks s ((sortS_perm ss).mem_iff.mp hs)⟩
      · cases e
  · cases e
end
end EV

namespace EVT
open PySem PySem.Spec PyProof.Rows HT L2
section
variable {prog : Program} {w : World} {A : Around} {E : Value → Shared → Prop} {s : Shared}
theorem applied_rev {sl : Addr} {vs : Value} {n : Nat} {Q : Int × Int × Nat → Shared → Prop} (hs : s.heap.IsSliceOf sl .none .none vs) (ps : IsPart vs (some (-1)))
    (h : Q ((n : Int) - 1, -1, n) s) : wpAny (model prog w) A (Builtin.Slice.sliceApplied (.ref sl) (pure (n : Int))) Q E s := by
  obtain ⟨os, hos, hcs, hds⟩ := id hs
  unfold Builtin.Slice.sliceApplied Builtin.Slice.sliceFields
  refine wpAny_bind (wpAny_bind (wpAny_field hos hds (x := .none) rfl (wpAny_bind (wpAny_field hos hds (x := .none) rfl (wpAny_bind (wpAny_field hos hds (x := vs) rfl (wpAny_pure ?_)))))))
  refine wpAny_bind (slicePart_ ps ?_)
  show wpAny _ _ (if ((-1 : Int) == 0) = true then _ else _) _ _ s
  rw [if_neg (by decide)]
  refine wpAny_bind (slicePart_none (wpAny_bind (slicePart_none (wpAny_bind (wpAny_pure ?_)))))
  show wpAny _ _ (match Builtin.Slice.sliceAdjust none none (-1) (n : Int) with | (lo, hi) => pure (lo, (-1 : Int), Builtin.Slice.slicePlaces lo hi (-1))) _ _ s
  show wpAny _ _ (pure ((n : Int) - 1, (-1 : Int), Builtin.Slice.slicePlaces ((n : Int) - 1) (-1) (-1))) _ _ s
  have e : Builtin.Slice.slicePlaces ((n : Int) - 1) (-1) (-1) = n := by
    unfold Builtin.Slice.slicePlaces
    have h1 : ¬ ((-1 : Int) > 0) := by omega
    simp only [h1, if_false]
    have e2 : (-(-1) : Int) = 1 := by omega
    rw [e2, Int.ediv_one]
    split <;> omega
  rw [e]
  exact wpAny_pure h
theorem pick_rev (xs : Array Value) : ((List.range xs.size).filterMap fun (m : Nat) => xs[((xs.size : Int) - 1 + (m : Int) * (-1)).toNat]?).toArray = xs.toList.reverse.toArray := by
  congr 1
  have e : ∀ (m : Nat), m < xs.size → xs[((xs.size : Int) - 1 + (m : Int) * (-1)).toNat]? = xs.toList.reverse[m]? := fun m hm => by
    have : ((xs.size : Int) - 1 + (m : Int) * (-1)).toNat = xs.size - 1 - m := by omega
    rw [this, List.getElem?_reverse (by rw [Array.length_toList]; exact hm), Array.length_toList, Array.getElem?_toList]
  have e2 : (List.range xs.size).filterMap (fun (m : Nat) => xs[((xs.size : Int) - 1 + (m : Int) * (-1)).toNat]?) = (List.range xs.toList.reverse.length).filterMap (fun m => xs.toList.reverse[m]?) := by
    have hl : xs.toList.reverse.length = xs.size := by rw [List.length_reverse, Array.length_toList]
    rw [hl]
    have : ∀ (l : List Nat), (∀ m, m ∈ l → m < xs.size) → l.filterMap (fun (m : Nat) => xs[((xs.size : Int) - 1 + (m : Int) * (-1)).toNat]?) = l.filterMap (fun m => xs.toList.reverse[m]?) := by
      intro l
      induction l with
      | nil => intro _; rfl
      | cons a l ih =>
        intro hl
        rw [List.filterMap_cons, List.filterMap_cons, e a (hl a List.mem_cons_self), ih fun m hm => hl m (List.mem_cons_of_mem _ hm)]
    exact this _ fun m hm => List.mem_range.mp hm
  rw [e2]
  generalize xs.toList.reverse = l
  induction l with
  | nil => rfl
  | cons a l ih =>
    rw [List.length_cons, List.range_succ_eq_map, List.filterMap_cons]
    show a :: List.filterMap _ _ = _
    rw [List.filterMap_map]
    congr 1
theorem getItem_tuple_rev {t sl : Addr} {items : Array Value} {vs : Value} {Q : Value → Shared → Prop} (ht : IsTup s.heap t items) (hs : s.heap.IsSliceOf sl .none .none vs) (ps : IsPart vs (some (-1)))
    (h : Q (.ref s.heap.objs.size) { s with heap := s.heap.push { cls := .type "tuple", data := .seq items.toList.reverse.toArray } })
    (hsz : items.size ≤ sizeLine) : wpAny (model prog w) A (getItem (.ref t) (.ref sl)) Q E s := by
  have htake : sizeOk (.seq items.toList.reverse.toArray) := by
    show items.toList.reverse.toArray.size ≤ sizeLine
    rw [List.size_toArray, List.length_reverse, Array.length_toList]
    exact hsz
  obtain ⟨os, hos, hcs, hds⟩ := id hs
  have hTs : s.TypeIs (.ref sl) "slice" := ⟨os, hos, hcs⟩
  unfold getItem
  try with_reducible refine wpAny_holding ?_
  first | refine wpAny_bind (wpAny_pure ?_) | skip
  refine wpAny_bind (wpAny_sequenceKey ht.typeIs (by decide) ?_)
  refine wpAny_bind (wpAny_callSpecial?_slot (name := Str.ofString "__getitem__") ht.typeIs PyProof.Rows.slot_tuple_getitem
    (wpAny_call_entry PyProof.Rows.slot_tuple_getitem ht.typeIs entry_tuple_getitem ?_ (args_tuple_getitem _ _)))
  show wpAny _ _ (Builtin.Tuple.tupleItemsOf (.ref t) >>= _) _ _ s
  refine wpAny_bind (tupleItemsOf_ ht ?_)
  refine wpAny_bind (wpAny_typeOf hTs ?_)
  rw [if_pos (by decide)]
  refine wpAny_bind (applied_rev hs ps ?_)
  have hno : ¬ (((items.size : Int) - 1 == 0 && (-1 : Int) == 1 && items.size == items.size) = true) := by
    intro q
    rw [Bool.and_eq_true, Bool.and_eq_true] at q
    have q1 : (-1 : Int) = 1 := eq_of_beq q.1.2
    omega
  show wpAny _ _ (if ((items.size : Int) - 1 == 0 && (-1 : Int) == 1 && items.size == items.size) = true then _ else _) _ _ s
  rw [if_neg hno, pick_rev]
  first
    | exact wpAny_bind (m := Builtin.Tuple.tupleExact _) (wpAny_newObj_type (wpAny_pure ⟨_, rfl, wpAny_pure h⟩) htake)
    | exact wpAny_bind (m := Builtin.Tuple.tupleExact _) (wpAny_newObj_type (wpAny_bind (wpAny_pure (wpAny_pure ⟨_, rfl, wpAny_pure h⟩))) htake)
    | exact wpAny_bind (wpAny_bind (m := Builtin.Tuple.tupleExact _) (wpAny_newObj_type (wpAny_pure (wpAny_pure ⟨_, rfl, wpAny_pure h⟩)) htake))
    | exact wpAny_bind (wpAny_bind (m := Builtin.Tuple.tupleExact _) (wpAny_newObj_type (wpAny_pure ⟨_, rfl, wpAny_pure h⟩) htake))
end
def tRevT (K : PySem.W.Frag) (te : TE) : TE := fun σ H Q => te σ H fun x H1 => ∃ a xs, x = .ref a ∧ ((SqL K H1 a xs ∧ ∀ p, H1 p = none → Q (.ref p) (upd H1 p (.lst xs.reverse))) ∨ (SqT K H1 a xs ∧ EVN.NewT H1 Q xs.reverse))
theorem pe_revT {X : Cx} {e : Expr} {te : TE} {k : Nat} {p1 p2 p3 pos : Pos} (he : PE X e te) : PE X (.Subscript e (.Slice none none (some (.UnaryOp .USub (.Constant (.int 1) k p1) p2)) p3) pos) (tRevT X.K te) := by
  refine ⟨fun pins s σ H Q I h => ?_⟩
  refine Subscript_ (thn (he.run pins s σ H _ I h) fun v s1 ⟨x, H1, I1, r1, q1⟩ => ?_)
  obtain ⟨a, xs, ex, q⟩ := q1
  subst ex
  cases r1
  have hst : PO X (some (.UnaryOp .USub (.Constant (.int 1) k p1) p2)) (tPart (tUn (rU fun i => .int (-i)) (tC (.int 1)))) := po_some (pe_un un_neg pe_int)
  refine wpAny_Slice ?_
  rw [evalPart_none]
  refine wpAny_pure ?_
  refine wpAny_pure ?_
  refine thn (hst.run pins s1 σ H1 (fun o H4 => o = some (-1) ∧ H4 = H1) I1 ⟨1, rfl, -1, rfl, rfl, rfl⟩) fun vs s4 ⟨o, H4, I4, ps, eo, e4⟩ => ?_
  subst eo e4
  have I5 : Inv X pins σ H4 { s4 with heap := s4.heap.push { cls := .type "slice", data := .fields #[.none, .none, vs] } } := I4.kept (t' := s4.toks) fun b ob q => Heap.get?_push_of_some _ q
  show wpAny (model X.prog X.w) X.A (subscriptTail e (.Slice none none (some (.UnaryOp .USub (.Constant (.int 1) k p1) p2)) p3) (.ref a) (.ref s4.heap.objs.size)) (EP X pins σ Q) X.xe { s4 with heap := s4.heap.push { cls := .type "slice", data := .fields #[.none, .none, vs] } }
  rcases q with ⟨hx, q⟩ | ⟨hx, q⟩
  · obtain ⟨its, r, ht, hz⟩ := I5.list hx
    have hlen := r.length
    refine tail_any (ops := [.ref a, .ref s4.heap.objs.size]) ht.isList.typeIs (PySem.slot_list_getitem.lookup) ?_ (by with_unfolding_all rfl)
    refine wpAny_getItem_list_slice ht.isList (Heap.IsSliceOf.new _ .none .none vs) .none .none ps (by decide) ?_ (by rw [List.size_toArray]; omega)
    rw [PySem.W.krv_pick]
    refine ⟨.ref _, _, I5.laid (t' := s4.toks) (o := .lst xs.reverse) (fun b ob q => Heap.get?_push_of_some _ q) (Nat.le_refl _) ?_, rfl, q _ (I5.hok.fresh (Nat.le_refl _))⟩
    exact ⟨by rw [List.length_reverse]; exact hz, _, 0, r.reverse, Heap.get?_push_size _ rfl⟩
  · obtain ⟨its, r, ht, hz⟩ := I5.tuple hx
    have hlen := r.length
    refine tail_any (ops := [.ref a, .ref s4.heap.objs.size]) ht.typeIs (PyProof.Rows.slot_tuple_getitem.lookup) ?_ (by with_unfolding_all rfl)
    refine getItem_tuple_rev ht (Heap.IsSliceOf.new _ .none .none vs) ps ?_ (by rw [List.size_toArray]; omega)
    exact EVN.land I5 (by rw [List.length_reverse]; exact hz) r.reverse q
end EVT
namespace EV
open PySem PySem.Spec L2 SX
open PyProof.Rows hiding St
section
variable {X : Cx} {S : ES} {W : WX} {pos p1 p2 p3 : Pos} {e : Expr} {fe : SE} {k : Nat}
def dRev : D → Option D
  | .lst xs => some (.lst xs.reverse)
  | .tup xs => some (.tup xs.reverse)
  | _ => none
theorem Reps.reverse {K : PySem.W.Frag} {T : Nat → Option Addr} {O : Addr → Prop} {H : Hp} : ∀ {vs : List V} {ds : List D}, Reps K T O H vs ds → Reps K T O H vs.reverse ds.reverse
  | [], [], _ => .nil
  | v :: vs, d :: ds, .cons h1 h2 => by
    rw [List.reverse_cons, List.reverse_cons]
    exact h2.reverse.snoc h1
theorem ev_rev (he : EvE X S W e fe) : EvE X S W (.Subscript e (.Slice none none (some (.UnaryOp .USub (.Constant (.int 1) k p1) p2)) p3) pos) (eUn dRev fe) := by
  obtain ⟨t, pt, q⟩ := he
  refine ⟨_, EVT.pe_revT pt, fun C σ H ρ Q E w => ?_⟩
  refine q C σ H ρ _ E ((Wp.bind w).mono (fun _ _ h => h) fun r1 _ w1 v1 H1 E1 A1 R1 => ?_)
  obtain ⟨d, e1, w2⟩ := deref_wp w1
  obtain ⟨d', e2, w3⟩ := opt_wp w2
  have rt := R1.rt E1 e1
  unfold dRev at e2
  split at e2
  · cases e2
    obtain ⟨a, vs, rfl, h1, h2⟩ := rt.lst
    refine ⟨a, vs, rfl, .inl ⟨.inl h1, fun p hp => ?_⟩⟩
    have x : Ex H1 (upd H1 p (.lst vs.reverse)) := Ex.new hp
    exact w3 _ _ (E1.ext x) (A1.trans x.adv) (Rep.lst (OH.fresh E1.omut hp) (.inl upd_same) (h2.reverse.adv x.ra))
  · cases e2
    obtain ⟨a, vs, rfl, h1, h2⟩ := rt.tup
    refine ⟨a, vs, rfl, .inr ⟨h1.sq, fun p o hp hd => ?_⟩⟩
    have x : Ex H1 (upd H1 p (.frz o (.tup vs.reverse))) := Ex.new hp
    exact w3 _ _ (E1.ext x) (A1.trans x.adv) (Rep.tup (.fresh (OH.fresh E1.omut hp) upd_same hd) (h2.reverse.adv x.ra))
  · cases e2
end
end EV

namespace EV
open PySem PySem.Spec L2 SX
open PyProof.Rows hiding St

/-! ### short words for printed proofs -/
theorem mem_of {l : List Nat} {i : Nat} (h : l.contains i = true) : i ∈ l := List.contains_iff_mem.mp h
theorem nmem_of {l : List Nat} {i : Nat} (h : l.contains i = false) : i ∉ l := fun z => by rw [List.contains_iff_mem.mpr z] at h; cases h
theorem all_not {l m : List Nat} (h : l.all (fun i => !m.contains i) = true) : ∀ v, v ∈ l → v ∉ m := fun v hv z => by
  have := List.all_eq_true.mp h v hv
  rw [List.contains_iff_mem.mpr z] at this
  cases this
theorem all_in {l m : List Nat} (h : l.all (fun i => m.contains i) = true) : ∀ v, v ∈ l → v ∈ m := fun v hv => List.contains_iff_mem.mp (List.all_eq_true.mp h v hv)
theorem frz_of {l m : List Nat} {i : Nat} (h : (l.all (fun j => j == i || m.contains j) && l.contains i && m.all (fun j => l.contains j)) = true) : ∀ j, j ∈ l ↔ j = i ∨ j ∈ m := fun j => by
  rw [Bool.and_eq_true, Bool.and_eq_true] at h
  obtain ⟨⟨h1, h2⟩, h3⟩ := h
  refine ⟨fun hj => ?_, fun hj => ?_⟩
  · have := List.all_eq_true.mp h1 j hj
    rw [Bool.or_eq_true, beq_iff_eq] at this
    exact this.imp id List.contains_iff_mem.mp
  · rcases hj with rfl | hj
    · exact List.contains_iff_mem.mp h2
    · exact List.contains_iff_mem.mp (List.all_eq_true.mp h3 j hj)
theorem fun_of {K : PySem.W.Frag} {x qual : Str} {st : Stmt} {f : Addr} {fd : FuncData} (F : FunD K x qual (defArgs st) (defBody st) (defScope st) [] [] f fd) : Fun K x qual st f fd := by
  obtain ⟨oc, od, dV, kV, doc, pm, an, cdv, ct, osl, rfl, lk, hcd, hD, hK⟩ := F.ex
  rcases hD with ⟨_, rfl⟩ | ⟨e, _⟩
  · exact ⟨⟨oc, od, kV, doc, pm, an, cdv, ct, osl, rfl, lk, hcd⟩, F.kp⟩
  · exact absurd rfl e
theorem cal_of {P : Program} {w : World} {K : PySem.W.Frag} {mg : Str → Option Value} {base : Heap} {S0 : ES} {k : Nat} {x : Str} {F : FS} {f : Addr} {fd : FuncData} {ps : List Str} (h : FnOk P w K mg base (L2.CX P w) k f fd ps (spF K S0 F)) (hm : mg x = some (.ref f)) (hk : PySem.W.keepIn K (.ref f) = true) (hb : Binds K fd ps []) : CalF P w K mg base S0 k x F := ⟨f, fd, ps, h, hm, hk, hb⟩
theorem calF_of {P : Program} {w : World} {K : PySem.W.Frag} {mg : Str → Option Value} {base : Heap} {S0 : ES} {k : Nat} {x : Str} {F : FF} {f : Addr} {fd : FuncData} {ps : List Str} (h : FnOk P w K mg base (L2.CX P w) k f fd ps (spFF K S0 F)) (hm : mg x = some (.ref f)) (hk : PySem.W.keepIn K (.ref f) = true) (hb : Binds K fd ps []) : CalFF P w K mg base S0 k x F := ⟨f, fd, ps, h, hm, hk, hb⟩
/-- a def of which nothing is promised -/
def noF (np : Nat) (bor : List Nat) : FS := ⟨np, bor, fun _ => .stuck⟩
theorem fn_no {P : Program} {w : World} {K : PySem.W.Frag} {mg : Str → Option Value} {base : Heap} {S0 : ES} {k : Nat} {f : Addr} {fd : FuncData} {ps : List Str} {bor : List Nat} : FnOk P w K mg base (L2.CX P w) k f fd ps (spF K S0 (noF ps.length bor)) :=
  ⟨fun vs H Q E h => let ⟨_, _, h, _⟩ := h; h, fun _ _ _ _ _ _ _ _ _ _ _ _ _ h => let ⟨_, _, _, _, _, _, h⟩ := h; h.elim⟩
section
variable {X : Cx} {S S0 : ES} {W : WX} {pos p : Pos} {x : Str}
theorem ev_gint {i : Int} (hg : Gl X x) (h : ∃ t, X.mg x = some (.int i t)) (hd : (x == ("__debug__" : Str)) = false := by decide) : EvE X S W (.Name x pos) (eC (.int i)) := by
  obtain ⟨t, h⟩ := h
  exact ev_glob (v := .int i) hg h ⟨t, rfl⟩ (fun _ _ => .int i) hd
theorem ev_gstr {s : List Nat} (hg : Gl X x) (h : ∃ t, X.mg x = some (.str (SX.S s) t)) (hv : s.all (fun c => decide (c < 1114112)) = true := by decide) (hd : (x == ("__debug__" : Str)) = false := by decide) : EvE X S W (.Name x pos) (eC (.str s)) := by
  obtain ⟨t, h⟩ := h
  exact ev_glob (v := .str (SX.S s)) hg h ⟨t, rfl⟩ (fun _ _ => .str s fun c hc => of_decide_eq_true (List.all_eq_true.mp hv c hc)) hd
theorem ev_gfn {n : Nat} {f : Addr} (hg : Gl X x) (h : X.mg x = some (.ref f)) (hT : S.T n = some f) (hd : (x == ("__debug__" : Str)) = false := by decide) : EvE X S W (.Name x pos) (eC (.fn n)) :=
  ev_glob (v := .ref f) hg h rfl (fun _ _ => .fn hT) hd
def dNeg : D → Option D
  | .int i => some (.int (-i))
  | _ => none
theorem ud_neg : UnD X (unaryOp .USub) dNeg := by
  refine ⟨_, un_neg, fun T O H v1 d1 d Q oh h e w => ?_⟩
  unfold dNeg at e
  split at e
  · cases e
    exact ⟨_, h.int, w _ H (Ex.refl H) (.int _)⟩
  · cases e
/-- a call without arguments (nothing is raised) -/
def noErr0 : Res (D × List D) → Res D
  | .ok o => .ok o.1
  | _ => .stuck
def eCall0 (F : FS) : SE := fun ρ => gd (decide (F.np = 0)) >>= fun _ => noErr0 (F.m []) >>= fun d => .ok (.val d, ρ)
theorem ev_call0 {F : FS} {k j : Nat} (c : CalF X.prog X.w X.K X.mg X.base S0 k x F) (hS : S0.T = S.T ∧ S0.cls = S.cls ∧ S0.fld = S.fld) (hb : F.bor = []) (hr : Room j X.A) (hk : k ≤ j) (hg : Gl X x) (hdb : (x == ("__debug__" : Str)) = false := by decide) :
    EvE X S W (.Call (.Name x p) [] [] pos) (eCall0 F) := by
  obtain ⟨f, fd, ps, G, hm, kp, b⟩ := c.ex
  refine ⟨_, pe_call0 G (hr.mono hk) hg hm kp b .nil passL hdb, fun C σ H ρ Q E w => ?_⟩
  obtain ⟨hn, w1⟩ := gd_wp w
  have hn := of_decide_eq_true hn
  cases q : F.m [] with
  | err c p => rw [q] at w1; exact w1.elim
  | stuck => rw [q] at w1; exact w1.elim
  | ok o =>
    rw [q] at w1
    have ex : ∀ {H'}, FrB F.bor [] H H' → Ex H H' := fun {H'} f a u h => (f.st a u h).resolve_left fun ⟨k, hk, _⟩ => by rw [hb] at hk; cases hk
    refine ⟨C.O S σ ρ, [], hn.symm, E.omut, trivial, fun k l a h => ?_, ?_⟩
    · rw [hb] at h; cases h
    · rw [q]
      intro v H' fr oh' rp _
      rw [hS.1] at rp
      exact w1 v H' (E.ext (ex fr)) (ex fr).adv rp
end
end EV

namespace EV
open PySem PySem.Spec L2 SX
open PyProof.Rows hiding St
theorem hu64 {k : Nat} {A : Around} (h : Room k A) : A.units + 64 < cLine := by have := h.un; omega
theorem hu65 {k : Nat} {A : Around} (h : Room k A) : A.units + 65 < cLine := by have := h.un; omega
theorem hbl_of {bor : List Nat} {n : Nat} (h : bor.all (fun i => decide (i < n)) = true) : ∀ i, i ∈ bor → i < n := fun i hi => of_decide_eq_true (List.all_eq_true.mp h i hi)
theorem ho_of {ow bor : List Nat} {n : Nat} (h : ow.all (fun i => bor.contains i || decide (n ≤ i)) = true) : ∀ i, i ∈ ow → i ∈ bor ∨ n ≤ i := fun i hi => by
  have := List.all_eq_true.mp h i hi
  rw [Bool.or_eq_true, decide_eq_true_eq] at this
  exact this.imp List.contains_iff_mem.mp id
theorem ho_of' {ow : List Nat} {n : Nat} (h : ow.all (fun i => decide (n ≤ i)) = true) : ∀ i, i ∈ ow → n ≤ i := fun i hi => of_decide_eq_true (List.all_eq_true.mp h i hi)
theorem same0 {S0 : ES} {ow fx : List Nat} : S0.T = (ES.mk ow fx S0.T S0.cls S0.fld).T ∧ S0.cls = (ES.mk ow fx S0.T S0.cls S0.fld).cls ∧ S0.fld = (ES.mk ow fx S0.T S0.cls S0.fld).fld := ⟨rfl, rfl, rfl⟩
def gNm (i : Nat) : D → EV.Env → Res EV.Env := fun d ρ => .ok (st ρ i (some d))
theorem eg_nm {X : Cx} {S : ES} {pos : Pos} {i : Nat} {x : Str} (ho : i ∉ S.ow) (hfx : i ∉ S.fx) (hN : X.N.Nodup) (hi : X.N[i]? = some x) (hx : Loc X.env.scope x) (hf : X.fn x = true ∨ X.env.scope.names.lookup x = some .local := by first | exact .inl rfl | exact .inr rfl | assumption) :
    EvG X S [i] (.Name x pos) (gNm i) := eg_name ho hfx hN hi hx hf
end EV

namespace EV
open PySem PySem.Spec L2 SX
open PyProof.Rows hiding St
/-- what raises nothing -/
theorem fn_calm {P : Program} {w : World} {K : PySem.W.Frag} {mg : Str → Option Value} {base : Heap} {k : Nat} {f : Addr} {fd : FuncData} {ps : List Str} {sp : Sp} (F : FnOk P w K mg base (L2.CX P w) k f fd ps sp) : FnOk P w K mg base CX0 k f fd ps (fun vs H Q _ => sp vs H Q fun _ _ _ => False) :=
  ⟨fun vs H Q _ h => F.len vs H Q _ h, fun A outer s H args us vs Q E hr he hb hv h => codeAny_mono (F.run A outer s H args us vs Q _ hr he hb hv h) fun r s' q => by
    cases r with
    | error e =>
      obtain ⟨_, _, _, _, _, _, _, _, _, _, _, _, z⟩ := (show L2.CX P w outer H s (fun _ _ _ => False) e s' from q)
      exact z.elim
    | ok fl => cases fl <;> exact q⟩
theorem sql_shl {K : PySem.W.Frag} {H : Hp} {a : Addr} {vs : List V} (h : SqL K H a vs) : ShL K (fun _ => False) H a vs := h.imp (fun z => ⟨fun q => q, z⟩) fun z => z
/-- the law's own promise -/
theorem law_sp {K : PySem.W.Frag} {S0 : ES} {F : FS} {ns : List Int} {H : Hp} {a : Addr} (hb : F.bor = []) (hn : F.np = 1) (hS : SqL K H a (ns.map V.int)) (h : ∃ o, F.m [.scr ns] = .ok (.bl true, o)) : spF K S0 F [.ref a] H (fun v _ => v = .bl true) fun _ _ _ => False := by
  obtain ⟨o, h⟩ := h
  refine ⟨fun _ => False, [.scr ns], hn.symm, fun a z => z.elim, ?_, fun k l a h => ?_, ?_⟩
  · rw [hb]
    exact ⟨by rw [if_neg (fun z => nomatch z)]; exact .scr (sql_shl hS), trivial⟩
  · rw [hb] at h; cases h
  · rw [h]
    intro v H' _ _ rp _
    cases (show Rep K S0.T (fun _ => False) H' v (.bl true) from rp)
    rfl
end EV

namespace EV
open PySem PySem.Spec L2 SX
open PyProof.Rows hiding St
/-! ### dicts whose keys are ints and texts -/
def lookD (kds : List (Kd × D)) (k : Kd) : Option D := (kds.find? fun kv => decide (kv.1 = k)).map (·.2)
def putD (kds : List (Kd × D)) (k : Kd) (d : D) : List (Kd × D) :=
  if (kds.any fun kv => decide (kv.1 = k)) = true then kds.map (fun kv => if kv.1 = k then (kv.1, d) else kv) else kds ++ [(k, d)]
def kdOf : D → Option Kd
  | .int i => some (.inl i)
  | .str s => some (.inr s)
  | _ => none
def kdD : Kd → D
  | .inl i => .int i
  | .inr s => .str s
section
variable {K : PySem.W.Frag} {T : Nat → Option Addr} {O : Addr → Prop} {H : Hp}
theorem kdK_dec (a b : Kd) : decide (kdK a = kdK b) = decide (a = b) := by
  by_cases h : a = b
  · rw [h, decide_eq_true rfl, decide_eq_true rfl]
  · rw [decide_eq_false h, decide_eq_false fun e => h (kdK_inj e)]
theorem RepK.length : ∀ {kvs : List (Key × V)} {kds : List (Kd × D)}, RepK K T O H kvs kds → kvs.length = kds.length
  | _, _, .nil => rfl
  | _, _, .cons _ h => congrArg (· + 1) h.length
theorem RepK.any (k : Kd) : ∀ {kvs : List (Key × V)} {kds : List (Kd × D)}, RepK K T O H kvs kds → (kvs.any fun kv => decide (kv.1 = kdK k)) = kds.any fun kv => decide (kv.1 = k)
  | _, _, .nil => rfl
  | _, _, .cons (k := j) h1 h2 => by rw [List.any_cons, List.any_cons, h2.any k, kdK_dec]
/-- what stands at a key -/
theorem RepK.look (k : Kd) : ∀ {kvs : List (Key × V)} {kds : List (Kd × D)}, RepK K T O H kvs kds → (lookD kds k = none ∧ valV kvs (kdK k) = none) ∨ ∃ v d, lookD kds k = some d ∧ valV kvs (kdK k) = some v ∧ Rep K T O H v d
  | _, _, .nil => .inl ⟨rfl, rfl⟩
  | _, _, .cons (k := j) (v := v) (d := d) (r := r) (rs := rs) h1 h2 => by
    by_cases e : j = k
    · subst e
      exact .inr ⟨v, d, by simp [lookD], valV_pos (p := (kdK j, v)) rfl, h1⟩
    · have e' : ¬ kdK j = kdK k := fun z => e (kdK_inj z)
      have e1 : lookD ((j, d) :: rs) k = lookD rs k := by simp [lookD, List.find?_cons, e]
      rw [e1, valV_neg (p := (kdK j, v)) e']
      exact h2.look k
theorem RepK.map (k : Kd) {v : V} {d : D} (hr : Rep K T O H v d) : ∀ {kvs : List (Key × V)} {kds : List (Kd × D)}, RepK K T O H kvs kds → RepK K T O H (kvs.map fun kv => if kv.1 = kdK k then (kv.1, v) else kv) (kds.map fun kv => if kv.1 = k then (kv.1, d) else kv)
  | _, _, .nil => .nil
  | _, _, .cons (k := j) h1 h2 => by
    rw [List.map_cons, List.map_cons]
    by_cases e : j = k
    · subst e
      rw [if_pos rfl, if_pos rfl]
      exact .cons hr (h2.map j hr)
    · rw [if_neg e, if_neg fun z => e (kdK_inj z)]
      exact .cons h1 (h2.map k hr)
theorem RepK.snoc {k : Kd} {v : V} {d : D} (hr : Rep K T O H v d) : ∀ {kvs : List (Key × V)} {kds : List (Kd × D)}, RepK K T O H kvs kds → RepK K T O H (kvs ++ [(kdK k, v)]) (kds ++ [(k, d)])
  | _, _, .nil => .cons hr .nil
  | _, _, .cons h1 h2 => .cons h1 (h2.snoc hr)
theorem RepK.put {k : Kd} {v : V} {d : D} {kvs : List (Key × V)} {kds : List (Kd × D)} (h : RepK K T O H kvs kds) (hr : Rep K T O H v d) : RepK K T O H (putK kvs (kdK k) v) (putD kds k d) := by
  unfold putK putD
  rw [h.any k]
  split
  · exact h.map k hr
  · exact h.snoc hr
theorem kd_some {d : D} {k : Kd} (h : kdOf d = some k) : d = kdD k := by
  cases d <;> cases h <;> rfl
theorem kV_kd {v : V} {d : D} {k : Kd} (h : RT K T O H v d) (e : kdOf d = some k) : v = kV (kdK k) := by
  cases d with
  | int i => cases e; exact h.int
  | str s => cases e; exact h.str
  | _ => cases e
theorem RT.dk {v : V} {kds : List (Kd × D)} (h : RT K T O H v (.dk kds)) : ∃ a kvs, v = .ref a ∧ Rd H a (.dK kvs) ∧ RepK K T O H kvs kds := by
  rcases h with h | ⟨a, rfl, h⟩
  · cases h with
    | dk h0 h1 h2 => exact ⟨_, _, rfl, h1, h2⟩
  · obtain ⟨kvs, h1, h2⟩ := h
    exact ⟨a, kvs, rfl, .inl h1, h2⟩
theorem kd_lay {k : Kd} (hs : ∀ s, k = .inr s → okS s) : Rep K T O H (kV (kdK k)) (kdD k) := by
  cases k with
  | inl i => exact .int i
  | inr s => exact .str s (hs s rfl)
end

/-! ### d[k] -/
def rIxD : R2 := fun x y H Q => ∃ a v, x = .ref a ∧ DGet H a y (some v) ∧ Q v H
theorem ix_dict {X : Cx} (hu : X.A.units + 1 < cLine) : IxR X rIxD := by
  intro value slice pins s σ H x y v u Q I rx ry h hs
  obtain ⟨a, z, rfl, g, q⟩ := h
  obtain rfl : v = Value.ref a := rx
  unfold subscriptTail
  refine wpAny_bind ?_
  rw [getitemInPython_of_ne (dict_typeIs I g).not_modules]
  refine wpAny_bind (wpAny_specialOf (dict_typeIs I g) PySem.F.slot_dict_getitem.lookup ?_)
  have fin : wpAny (model X.prog X.w) X.A (subscripted slice false (.ref a) u) (fun r s₃ => wpAny (model X.prog X.w) X.A (letTemporaryGo value (.ref a) r >>= fun _ => pure r) (EP X pins σ Q) X.xe s₃) X.xe s := by
    rw [hs]
    exact wpAny_operating (d_getItem hu I g ry fun w' s3 I3 rw' => wpAny_bind (wpAny_letTemporaryGo (wpAny_pure ⟨z, H, I3, rw', q⟩)))
  first
    | exact wpAny_pure (wpAny_bind fin)
    | exact wpAny_bind (wpAny_pure (wpAny_bind fin))
    | exact wpAny_bind fin
def dAt : D → D → Option D
  | .dk kds, k => (kdOf k).bind (lookD kds)
  | a, b => dIx a b
theorem ix_allD {X : Cx} (hu : X.A.units + 1 < cLine) : IxD X dAt := by
  obtain ⟨r, hr, qr⟩ := ix_all (X := X)
  refine ⟨_, hr.or (ix_dict hu), fun T O H v1 v2 d1 d2 d Q oh h1 h2 e w => ?_⟩
  by_cases h : ∃ kds, d1 = .dk kds
  · obtain ⟨kds, rfl⟩ := h
    have e' : (kdOf d2).bind (lookD kds) = some d := e
    obtain ⟨k, ek, e2⟩ := Option.bind_eq_some_iff.mp e'
    obtain ⟨a, kvs, rfl, h3, h4⟩ := h1.dk
    rcases h4.look k with ⟨z, _⟩ | ⟨v, d', z1, z2, z3⟩
    · rw [z] at e2; cases e2
    · rw [z1] at e2
      cases e2
      exact .inr ⟨a, v, rfl, .inl ⟨kvs, kdK k, h3, kV_kd h2 ek, z2.symm⟩, w v H (Ex.refl H) z3⟩
  · have e' : dIx d1 d2 = some d := by
      cases d1 <;> first | exact e | exact absurd ⟨_, rfl⟩ h
    exact .inl (qr T O H v1 v2 d1 d2 d Q oh h1 h2 e' w)
end EV

namespace EV
open PySem PySem.Spec L2 SX
open PyProof.Rows hiding St
section
variable {X : Cx} {S : ES} {W : WX} {pos : Pos} {e a b : Expr} {fe fa fb : SE}
/-! ### d[k] = v -/
def setK (k d : D) : D → Option D
  | .dk kds => (kdOf k).bind fun j => if kds.length < LIM then some (.dk (putD kds j d)) else none
  | _ => none
theorem setK_some {k d l l' : D} (h : setK k d l = some l') : ∃ kds j, l = .dk kds ∧ kdOf k = some j ∧ kds.length < LIM ∧ l' = .dk (putD kds j d) := by
  unfold setK at h
  split at h
  · obtain ⟨j, hj, h2⟩ := Option.bind_eq_some_iff.mp h
    split at h2
    · cases h2
      exact ⟨_, j, rfl, hj, by assumption, rfl⟩
    · cases h2
  · cases h
def sStK (f o i : SE) : SS := fun ρ => f ρ >>= fun r => ofOpt (valOf r.1) >>= fun d => o r.2 >>= fun r1 => ofOpt (plcOf r1.1) >>= fun s => i r1.2 >>= fun r2 => ofOpt (valOf r2.1) >>= fun k => ofOpt (gt r2.2 s) >>= fun l => ofOpt (setK k d l) >>= fun l' => .ok (.nx, st r2.2 s (some l'))
theorem es_stK {o i : Expr} {fo fi : SE} {spos : Pos} (hu : X.A.units + 1 < cLine) (he : EvE X S W e fe) (ho : EvE X S W o fo) (hi : EvE X S W i fi)
    (hs : swapsWith e (some (.Subscript o i spos)) pos.line X.env = pure false := by rfl) :
    EvS X S W (.Assign [.Subscript o i spos] e pos) (sStK fe fo fi) := by
  obtain ⟨te, pe, qe⟩ := he
  obtain ⟨to, po, qo⟩ := ho
  obtain ⟨ti, pi, qi⟩ := hi
  refine ⟨_, ps_dput hu po pi pe hs, fun C σ H ρ E Er w => ?_⟩
  refine qe C σ H ρ _ Er ((Wp.bind w).mono (fun _ _ h => h) fun r0 _ w0 v0 H0 E0 A0 R0 => ?_)
  obtain ⟨d, e0, w1⟩ := opt_wp w0
  refine qo C σ H0 r0.2 _ E0 ((Wp.bind w1).mono (fun _ _ h => h) fun r1 _ w2 v1 H1 E1 A1 R1 => ?_)
  obtain ⟨s, e1, w3⟩ := opt_wp w2
  rw [plcOf_eq e1] at R1
  obtain ⟨hs0, hs1⟩ := R1
  refine qi C σ H1 r1.2 _ E1 ((Wp.bind w3).mono (fun _ _ h => h) fun r2 _ w4 v2 H2 E2 A2 R2 => ?_)
  obtain ⟨k, e2, w5⟩ := opt_wp w4
  obtain ⟨l, e3, w6⟩ := opt_wp w5
  obtain ⟨l', e4, w7⟩ := opt_wp w6
  have rp : Rep X.K S.T (C.O S σ r2.2) H2 v0 d := (R0.val e0).adv (A1.trans A2).ra
  obtain ⟨kds, j, rfl, hj, hl, rfl⟩ := setK_some e4
  obtain ⟨ad, e8, ow2, _⟩ := E2.own s _ hs0 e3
  rw [hs1] at e8
  obtain rfl : v1 = .ref ad := by simpa using e8
  obtain ⟨kvs, g1, g2⟩ := ow2
  refine ⟨ad, upd H2 ad (.dK (putK kvs (kdK j) v0)), rfl, .inl ⟨kvs, kdK j, g1, kV_kd (.inl (R2.val e2)) hj, by rw [g2.length, lim_eq]; exact hl, rfl⟩, ?_⟩
  have oa : C.O S σ r2.2 ad := .inr ⟨s, hs0, some_ne e3, hs1⟩
  have ra : RA (C.O S σ r2.2) H2 (C.O S σ r2.2) (upd H2 ad (.dK (putK kvs (kdK j) v0))) := ⟨fun b u nb hb => by
    have ne : b ≠ ad := fun z => nb (z ▸ oa)
    rcases hb with hb | ⟨o, hb⟩
    · exact .inl (by rw [upd_ne ne]; exact hb)
    · exact .inr ⟨o, by rw [upd_ne ne]; exact hb⟩, fun b z => .inl z, fun b hb => by
    by_cases z : b = ad
    · subst z; rw [upd_same]; exact some_ne rfl
    · rw [upd_ne z]; exact hb⟩
  have E3 := E2.mut (u := .dK (putK kvs (kdK j) v0)) (d := .dk (putD kds j d)) hs0 e3 hs1 trivial ⟨putK kvs (kdK j) v0, upd_same, (RepK.adv ra _ _ g2).put (rp.adv ra)⟩
  exact w7 _ _ E3 (((A0.trans A1).trans A2).trans (adv_mut hs0 e3 hs1))

/-! ### d.get(k, x) -/
def isDk : D → Option Unit
  | .dk _ => some ()
  | _ => none
def getK (k x : D) : D → Option D
  | .dk kds => (kdOf k).map fun j => (lookD kds j).getD x
  | _ => none
def eGet2 (o i f : SE) : SE := fun ρ => o ρ >>= fun r => deref r.2 r.1 >>= fun d0 => ofOpt (isDk d0) >>= fun _ => i r.2 >>= fun r1 => ofOpt (valOf r1.1) >>= fun k => f r1.2 >>= fun r2 => ofOpt (valOf r2.1) >>= fun x => deref r2.2 r.1 >>= fun d => ofOpt (getK k x d) >>= fun y => .ok (.val y, r2.2)
theorem isD_of {K : PySem.W.Frag} {T : Nat → Option Addr} {O : Addr → Prop} {H : Hp} {v : V} {d : D} (h : RT K T O H v d) (e : isDk d = some ()) : ∃ a, v = .ref a ∧ IsD H a := by
  cases d <;> cases e
  obtain ⟨a, kvs, rfl, h1, _⟩ := h.dk
  exact ⟨a, rfl, .inl ⟨kvs, h1⟩⟩
theorem ev_get2 {o i f : Expr} {fo fi ff : SE} {apos cpos : Pos} (hu : X.A.units + 1 < cLine) (ho : EvE X S W o fo) (hi : EvE X S W i fi) (hf : EvE X S W f ff) (m : M2 X o "get" apos i f cpos) :
    EvE X S W (.Call (.Attribute o "get" apos) [i, f] [] cpos) (eGet2 fo fi ff) := by
  obtain ⟨to, po, qo⟩ := ho
  obtain ⟨ti, pi, qi⟩ := hi
  obtain ⟨tf, pf, qf⟩ := hf
  refine ⟨_, pe_dget2 hu po pi pf m, fun C σ H ρ Q E w => ?_⟩
  refine qo C σ H ρ _ E ((Wp.bind w).mono (fun _ _ h => h) fun r _ w1 v H1 E1 A1 R1 => ?_)
  obtain ⟨d0, e0, w2⟩ := deref_wp w1
  obtain ⟨_, e1, w3⟩ := opt_wp w2
  obtain ⟨a, rfl, hd⟩ := isD_of (R1.rt E1 e0) e1
  refine ⟨a, rfl, hd, ?_⟩
  refine qi C σ H1 r.2 _ E1 ((Wp.bind w3).mono (fun _ _ h => h) fun r1 _ w4 v1 H2 E2 A2 R2 => ?_)
  obtain ⟨k, e2, w5⟩ := opt_wp w4
  refine qf C σ H2 r1.2 _ E2 ((Wp.bind w5).mono (fun _ _ h => h) fun r2 _ w6 v2 H3 E3 A3 R3 => ?_)
  obtain ⟨x, e3, w7⟩ := opt_wp w6
  obtain ⟨d, e4, w8⟩ := deref_wp w7
  obtain ⟨y, e5, w9⟩ := opt_wp w8
  have Rd3 := (R1.adv (A2.trans A3)).rt E3 e4
  have Rk := (R2.adv A3).val e2
  have Rx := R3.val e3
  have A : Adv (C.mo S σ ρ) H (C.mo S σ r2.2) H3 := (A1.trans A2).trans A3
  cases d with
  | dk kds =>
    have e5' : (kdOf k).map (fun j => (lookD kds j).getD x) = some y := e5
    obtain ⟨j, hj, rfl⟩ := Option.map_eq_some_iff.mp e5'
    obtain ⟨a', kvs, ea, h1, h2⟩ := Rd3.dk
    cases ea
    rcases h2.look j with ⟨z1, z2⟩ | ⟨v', d', z1, z2, z3⟩
    · rw [z1] at w9
      exact ⟨none, .inl ⟨kvs, kdK j, h1, kV_kd (.inl Rk) hj, z2.symm⟩, w9 _ _ E3 A Rx⟩
    · rw [z1] at w9
      exact ⟨some v', .inl ⟨kvs, kdK j, h1, kV_kd (.inl Rk) hj, z2.symm⟩, w9 _ _ E3 A z3⟩
  | _ => cases e5
/-! ### k in d -/
def inK (neg : Bool) (k : D) : D → Option D
  | .dk kds => (kdOf k).map fun j => .bl ((lookD kds j).isSome != neg)
  | _ => none

/-! ### {} -/
def fDk0 : Env → Res (D × Env) := fun ρ => .ok (.dk [], ρ)
theorem ef_dk0 : EvF X S W (.Dict [] [] pos) fDk0 := by
  refine ⟨_, pe_dnewK, fun C σ H ρ Q E w p hp => ?_⟩
  have x : Ex H (upd H p (.dK [])) := Ex.new hp
  exact w p _ hp (OH.fresh E.omut hp) (E.alloc hp trivial) x.adv ⟨[], upd_same, .nil⟩
end
end EV

namespace EV
open PySem PySem.Spec L2 SX
open PyProof.Rows hiding St
/-! ### {k: v, ..} -/
def RepP (K : PySem.W.Frag) (T : Nat → Option Addr) (O : Addr → Prop) (H : Hp) : List (V × V) → List (D × D) → Prop
  | [], [] => True
  | p :: ps, q :: qs => Rep K T O H p.1 q.1 ∧ Rep K T O H p.2 q.2 ∧ RepP K T O H ps qs
  | _, _ => False
def kdPs : List (D × D) → Option (List (Kd × D))
  | [] => some []
  | p :: r => (kdOf p.1).bind fun k => (kdPs r).map ((k, p.2) :: ·)
def mergeD (kds more : List (Kd × D)) : List (Kd × D) := more.foldl (fun acc kv => putD acc kv.1 kv.2) kds
section
variable {K : PySem.W.Frag} {T : Nat → Option Addr} {O O' : Addr → Prop} {H H' : Hp}
theorem RepP.adv (x : RA O H O' H') : ∀ {ps : List (V × V)} {qs : List (D × D)}, RepP K T O H ps qs → RepP K T O' H' ps qs
  | [], [], _ => trivial
  | _ :: _, _ :: _, h => ⟨h.1.adv x, h.2.1.adv x, h.2.2.adv x⟩
  | [], _ :: _, h => h.elim
  | _ :: _, [], h => h.elim
theorem RepP.kds : ∀ {ps : List (V × V)} {qs : List (D × D)} {kds : List (Kd × D)}, RepP K T O H ps qs → kdPs qs = some kds → ∃ kvs : List (Key × V), ps = kvs.map (fun kv => (kV kv.1, kv.2)) ∧ kvs.length = qs.length ∧ RepK K T O H kvs kds
  | [], [], _, _, e => by cases e; exact ⟨[], rfl, rfl, .nil⟩
  | p :: ps, q :: qs, kds, h, e => by
    have e' : ((kdOf q.1).bind fun k => (kdPs qs).map ((k, q.2) :: ·)) = some kds := e
    obtain ⟨k, ek, e2⟩ := Option.bind_eq_some_iff.mp e'
    obtain ⟨ks, e3, rfl⟩ := Option.map_eq_some_iff.mp e2
    obtain ⟨kvs, h1, h2, h3⟩ := h.2.2.kds e3
    refine ⟨(kdK k, p.2) :: kvs, ?_, congrArg (· + 1) h2, .cons h.2.1 h3⟩
    rw [List.map_cons, ← h1]
    have := kV_kd (.inl h.1) ek
    obtain ⟨p1, p2⟩ := p
    dsimp only at this ⊢
    rw [this]
  | [], _ :: _, _, h, _ => h.elim
  | _ :: _, [], _, h, _ => h.elim
theorem RepK.merge : ∀ {more : List (Key × V)} {md : List (Kd × D)} {kvs : List (Key × V)} {kds : List (Kd × D)}, RepK K T O H more md → RepK K T O H kvs kds → RepK K T O H (mergeK kvs more) (mergeD kds md)
  | _, _, _, _, .nil, h => h
  | _, _, _, _, .cons (k := k) h1 h2, h => by
    show RepK K T O H (mergeK (putK _ (kdK k) _) _) (mergeD (putD _ k _) _)
    exact h2.merge (h.put h1)
end
section
variable {X : Cx} {S : ES} {W : WX} {pos : Pos} {e a b : Expr} {fe fa fb : SE}
def EvPP (X : Cx) (S : ES) (W : WX) (pos : Pos) (ks : List (Option Expr)) (vs : List Expr) (f : Env → Res (List (D × D) × Env)) : Prop :=
  ∃ trs, PPs X pos ks vs trs ∧ ∀ (C : EC) (σ : St) (H : Hp) (ρ : Env) (Q : List (V × V) → Hp → Prop), ER X.K S C σ H ρ →
    Wp (f ρ) (XOk X.K S W C) (fun r => ∀ ps H', ER X.K S C σ H' r.2 → Adv (C.mo S σ ρ) H (C.mo S σ r.2) H' → RepP X.K S.T (C.O S σ r.2) H' ps r.1 → Q ps H') → tPairs trs σ H Q
def ppNil : Env → Res (List (D × D) × Env) := fun ρ => .ok ([], ρ)
def ppCons (k v : SE) (f : Env → Res (List (D × D) × Env)) : Env → Res (List (D × D) × Env) := fun ρ => k ρ >>= fun r => ofOpt (valOf r.1) >>= fun d => v r.2 >>= fun r1 => ofOpt (valOf r1.1) >>= fun d1 => f r1.2 >>= fun r2 => .ok ((d, d1) :: r2.1, r2.2)
theorem epp_nil : EvPP X S W pos [] [] ppNil := ⟨[], pps_nil, fun C σ H ρ Q E w => w [] H E (.refl _ _) trivial⟩
theorem epp_cons {ks vs f} (ha : EvE X S W a fa) (hb : EvE X S W b fb) (h : EvPP X S W pos ks vs f) : EvPP X S W pos (some a :: ks) (b :: vs) (ppCons fa fb f) := by
  obtain ⟨ta, pa, qa⟩ := ha
  obtain ⟨tb, pb, qb⟩ := hb
  obtain ⟨tr, pr, qr⟩ := h
  refine ⟨_, pps_cons pa pb pr, fun C σ H ρ Q E w => ?_⟩
  refine qa C σ H ρ _ E ((Wp.bind w).mono (fun _ _ h => h) fun r1 _ w1 v1 H1 E1 A1 R1 => ?_)
  obtain ⟨d, e1, w2⟩ := opt_wp w1
  refine qb C σ H1 r1.2 _ E1 ((Wp.bind w2).mono (fun _ _ h => h) fun r2 _ w3 v2 H2 E2 A2 R2 => ?_)
  obtain ⟨d1, e2, w4⟩ := opt_wp w3
  refine qr C σ H2 r2.2 _ E2 ((Wp.bind w4).mono (fun _ _ h => h) fun r3 _ w5 ps H3 E3 A3 R3 => ?_)
  exact w5 _ H3 E3 ((A1.trans A2).trans A3) ⟨(R1.val e1).adv (A2.trans A3).ra, (R2.val e2).adv A3.ra, R3⟩
def fDisp (f : Env → Res (List (D × D) × Env)) : Env → Res (D × Env) := fun ρ => f ρ >>= fun r => ofOpt (kdPs r.1) >>= fun kds => .ok (.dk (mergeD [] kds), r.2)
theorem ef_disp {ks : List (Option Expr)} {vs : List Expr} {f} (h : EvPP X S W pos ks vs f) (hall : ks.all (·.isSome) = true) (hl : ks.length = vs.length) (h0 : ks ≠ []) (h15 : ks.length ≤ 15) (hf : ∀ ρ r, f ρ = .ok r → r.1.length ≤ 15) : EvF X S W (.Dict ks vs pos) (fDisp f) := by
  obtain ⟨tr, pr, qr⟩ := h
  refine ⟨_, pe_disp pr hall hl h0 h15, fun C σ H ρ Q E w p hp => ?_⟩
  have x : Ex H (upd H p (.dK [])) := Ex.new hp
  have E0 := E.alloc (u := .dK []) hp trivial
  have nO : ¬ C.O S σ ρ p := OH.fresh E.omut hp
  have nM : ¬ EC.M S σ ρ p := fun z => nO (.inr z)
  have hC0 : C.H0 p = none := E.h0 hp
  refine qr (C.pl [p]) σ (upd H p (.dK [])) ρ _ E0 ((Wp.bind w).mono (fun c pl hx d σ' H' ρ' E' pay => ?_) fun r er w1 ps H1 E1 A1 R1 => ?_)
  · refine hx d σ' H' ρ' E'.unplus fun f hf => ?_
    obtain ⟨dx, v, e1, e2, rp⟩ := pay f hf
    exact ⟨dx, v, e1, e2, rp.adv ra_unplus⟩
  obtain ⟨kds, ek, w2⟩ := opt_wp w1
  obtain ⟨kvs, eps, hlk, rk⟩ := R1.kds ek
  have hp1 : H1 p = some (.dK []) := A1.st p _ nM upd_same
  have nM1 : ¬ EC.M S σ r.2 p := fun z => (A1.mn p z).elim nM fun q => by rw [upd_same] at q; cases q
  have A2 : Adv (C.mo S σ ρ) H ((C.pl [p]).mo S σ r.2) H1 := (adv_plus hp x).trans A1
  refine ⟨hp1, kvs, eps, by rw [hlk]; exact hf ρ r er, ?_⟩
  have E2 := E1.mutNew (u := .dK (mergeK [] kvs)) hC0 nM1 hp1 trivial trivial
  have ra : RA ((C.pl [p]).O S σ r.2) H1 ((C.pl [p]).O S σ r.2) (upd H1 p (.dK (mergeK [] kvs))) := by
    have op : (C.pl [p]).O S σ r.2 p := .inl (.inr (List.mem_singleton.mpr rfl))
    refine ⟨fun b v n h => ?_, fun b z => .inl z, fun b h => ?_⟩
    · have ne : b ≠ p := fun e => n (e ▸ op)
      rcases h with h | ⟨o, h⟩
      · exact .inl (by rw [upd_ne ne]; exact h)
      · exact .inr ⟨o, by rw [upd_ne ne]; exact h⟩
    · by_cases e : b = p
      · subst e; rw [upd_same]; exact some_ne rfl
      · rw [upd_ne e]; exact h
  have A3 : Adv (C.mo S σ ρ) H (C.mo S σ r.2) (upd H1 p (.dK (mergeK [] kvs))) := (A2.mutNew hp (some_ne hp1)).trans adv_unplus
  have no2 : ¬ C.O S σ r.2 p := fun z => by
    rcases z with z | z
    · exact nO (.inl z)
    · exact nM1 z
  exact w2 p _ hp no2 E2 A3 ⟨mergeK [] kvs, upd_same, (RepK.merge (RepK.adv ra _ _ rk) .nil)⟩
/-! ### dict(pairs) -/
def dPairs : List D → Option (List (Kd × D))
  | [] => some []
  | .tup [k, v] :: r => (kdOf k).bind fun j => (dPairs r).map ((j, v) :: ·)
  | _ => none
def bDict : List D → Option D
  | [.lst xs] => (dPairs xs).map fun kds => .dk (mergeD [] kds)
  | _ => none
theorem Reps.pairs {K : PySem.W.Frag} {T : Nat → Option Addr} {O : Addr → Prop} {H : Hp} : ∀ {vs : List V} {ds : List D} {kds : List (Kd × D)}, Reps K T O H vs ds → dPairs ds = some kds →
    ∃ (ps : List Addr) (kvs : List (Key × V)), vs = ps.map V.ref ∧ Paired (fun p kv => SqT K H p [kV kv.1, kv.2]) ps kvs ∧ RepK K T O H kvs kds
  | _, _, _, .nil, e => by cases e; exact ⟨[], [], rfl, .nil, .nil⟩
  | _, _, kds, .cons (v := v) (d := d) (vs := vs) (ds := ds) h1 h2, e => by
    unfold dPairs at e
    split at e
    · rename_i heq; cases heq
    · rename_i k y r heq
      cases heq
      obtain ⟨j, ej, e2⟩ := Option.bind_eq_some_iff.mp e
      obtain ⟨ks, e3, rfl⟩ := Option.map_eq_some_iff.mp e2
      obtain ⟨ps, kvs, rfl, h4, h5⟩ := h2.pairs e3
      cases h1 with
      | tup s1 r1 =>
        cases r1 with
        | cons rk r2 =>
          cases r2 with
          | cons rv r3 =>
            cases r3
            have := kV_kd (.inl rk) ej
            subst this
            exact ⟨_ :: ps, (kdK j, _) :: kvs, rfl, .cons s1.sq h4, .cons rv h5⟩
    · cases e
theorem cf_dict (hc : X.calm = true) : CalF' X (.type "dict") bDict := by
  refine ⟨_, call_dictP hc, fun T O H vs ds d Q oh rt e w => ?_⟩
  unfold bDict at e
  split at e
  · obtain ⟨kds, ek, rfl⟩ := Option.map_eq_some_iff.mp e
    obtain ⟨v, rfl, h⟩ := rt.one
    obtain ⟨a, vs, rfl, h1, h2⟩ := h.lst
    obtain ⟨ps, kvs, rfl, h4, h5⟩ := h2.pairs ek
    exact ⟨a, ps, kvs, rfl, .inl h1, h4, fun p hp => w p _ hp ⟨_, rfl, h5.merge .nil⟩⟩
  · cases e
end
end EV

namespace EV
open PySem PySem.Spec L2 SX
open PyProof.Rows hiding St
/-! ### for k in d: the dict is locked meanwhile -/
/-- what data lies in -/
def Pl : HO → Prop
  | .lst _ => True
  | .tup _ => True
  | .dK _ => True
  | .dT _ => True
  | .ext _ => True
  | .frz _ (.tup _) => True
  | _ => False
structure RAp (O : Addr → Prop) (H : Hp) (O' : Addr → Prop) (H' : Hp) : Prop where
  st : ∀ a u, ¬ O a → Pl u → Rd H a u → Rd H' a u
  on : ∀ a, O' a → O a ∨ H a = none
section
variable {K : PySem.W.Frag} {T : Nat → Option Addr} {O O' : Addr → Prop} {H H' : Hp}
theorem RA.p (x : RA O H O' H') : RAp O H O' H' := ⟨fun a u n _ h => x.st a u n h, x.on⟩
theorem ShL.advp {a : Addr} {vs : List V} (x : RAp O H O' H') (h : ShL K O H a vs) : ShL K O' H' a vs := by
  rcases h with ⟨n, h⟩ | h
  · exact .inl ⟨fun z => (x.on a z).elim n (rd_some h), x.st a _ n trivial h⟩
  · exact .inr h
theorem ShT.advp {a : Addr} {vs : List V} (x : RAp O H O' H') (h : ShT K O H a vs) : ShT K O' H' a vs := by
  rcases h with ⟨n, h, o, hd, ho⟩ | h
  · exact .inl ⟨fun z => (x.on a z).elim n (rd_some h), x.st a _ n trivial h, o, hd, x.st a _ n trivial ho⟩
  · exact .inr h
mutual
theorem Rep.advp (x : RAp O H O' H') : ∀ (d : D) (v : V), Rep K T O H v d → Rep K T O' H' v d
  | .non, _, h => by cases h; exact .non
  | .bl b, _, h => by cases h; exact .bl b
  | .int i, _, h => by cases h; exact .int i
  | .str s, _, h => by
    cases h with
    | str _ hs => exact .str s hs
  | .tup ds, _, h => by
    cases h with
    | tup h1 h2 => exact .tup (h1.advp x) (Reps.advp x ds _ h2)
  | .lst ds, _, h => by
    cases h with
    | lst h0 h1 h2 => exact .lst (fun z => (x.on _ z).elim h0 (rd_some h1)) (x.st _ _ h0 trivial h1) (Reps.advp x ds _ h2)
  | .dk ds, _, h => by
    cases h with
    | dk h0 h1 h2 => exact .dk (fun z => (x.on _ z).elim h0 (rd_some h1)) (x.st _ _ h0 trivial h1) (RepK.advp x ds _ h2)
  | .dt ds, _, h => by
    cases h with
    | dt h0 h1 h2 => exact .dt (fun z => (x.on _ z).elim h0 (rd_some h1)) (x.st _ _ h0 trivial h1) (RepT.advp x ds _ h2)
  | .fn n, _, h => by
    cases h with
    | fn h => exact .fn h
  | .scr ns, _, h => by
    cases h with
    | scr h => exact .scr (h.advp x)
theorem Reps.advp (x : RAp O H O' H') : ∀ (ds : List D) (vs : List V), Reps K T O H vs ds → Reps K T O' H' vs ds
  | [], _, h => by cases h; exact .nil
  | d :: ds, _, h => by
    cases h with
    | cons h1 h2 => exact .cons (Rep.advp x d _ h1) (Reps.advp x ds _ h2)
theorem RepK.advp (x : RAp O H O' H') : ∀ (ds : List (Kd × D)) (vs : List (Key × V)), RepK K T O H vs ds → RepK K T O' H' vs ds
  | [], _, h => by cases h; exact .nil
  | (k, d) :: ds, _, h => by
    cases h with
    | cons h1 h2 => exact .cons (Rep.advp x d _ h1) (RepK.advp x ds _ h2)
theorem RepT.advp (x : RAp O H O' H') : ∀ (ds : List (List Int × D)) (vs : List EVT.TRow), RepT K T O H vs ds → RepT K T O' H' vs ds
  | [], _, h => by cases h; exact .nil
  | (k, d) :: ds, _, h => by
    cases h with
    | cons h0 h1 h2 => exact .cons (h0.advp x) (Rep.advp x d _ h1) (RepT.advp x ds _ h2)
end
theorem OwnAt.advp {a : Addr} {d : D} (x : RAp O H O' H') (e : H' a = H a) (h : OwnAt K T O H a d) : OwnAt K T O' H' a d := by
  cases d with
  | lst ds => obtain ⟨vs, h1, h2⟩ := h; exact ⟨vs, e.trans h1, Reps.advp x _ _ h2⟩
  | dk ds => obtain ⟨vs, h1, h2⟩ := h; exact ⟨vs, e.trans h1, RepK.advp x _ _ h2⟩
  | dt ds => obtain ⟨vs, h1, h2⟩ := h; exact ⟨vs, e.trans h1, RepT.advp x _ _ h2⟩
  | _ => exact h.elim
end
section
variable {K : PySem.W.Frag} {S : ES} {C : EC} {σ σ' : St} {H H' : Hp} {ρ ρ' : Env} {a : Addr} {od : Obj} {u : HO}
/-- one thing more is locked -/
abbrev EC.lock (C : EC) (a : Addr) (od : Obj) (u : HO) : EC := { C with lk := (a, od, u) :: C.lk }
theorem OwnAt.nofrz {T : Nat → Option Addr} {O : Addr → Prop} {d : D} (h : OwnAt K T O H a d) {o : Obj} {w : HO} (e : H a = some (.frz o w)) : False := by
  cases d with
  | lst ds => obtain ⟨vs, h1, h2⟩ := h; rw [h1] at e; cases e
  | dk ds => obtain ⟨vs, h1, h2⟩ := h; rw [h1] at e; cases e
  | dt ds => obtain ⟨vs, h1, h2⟩ := h; rw [h1] at e; cases e
  | _ => exact h.elim
theorem mut_nofrz {o : Obj} {w : HO} (h : Mut (some (.frz o w))) : False := h
theorem ER.lock (E : ER K S C σ H ρ) (hu : H a = some u) (mu : Mut (some u)) (no : ¬ C.O S σ ρ a) : ER K S (C.lock a od u) σ (upd H a (.frz od u)) ρ := by
  have ra : RA (C.O S σ ρ) H ((C.lock a od u).O S σ ρ) (upd H a (.frz od u)) := by
    refine ⟨fun b w n h => ?_, fun b z => .inl z, fun b h => ?_⟩
    · by_cases e : b = a
      · subst e
        rcases h with h | ⟨o, h⟩
        · rw [hu] at h; cases h; exact .inr ⟨od, upd_same⟩
        · rw [hu] at h; cases h; exact (mut_nofrz mu).elim
      · rcases h with h | ⟨o, h⟩
        · exact .inl (by rw [upd_ne e]; exact h)
        · exact .inr ⟨o, by rw [upd_ne e]; exact h⟩
    · by_cases e : b = a
      · subst e; rw [upd_same]; exact some_ne rfl
      · rw [upd_ne e]; exact h
  refine ⟨E.len, fun i d hi hd => let ⟨v, h1, h2⟩ := E.sh i d hi hd; ⟨v, h1, h2.adv ra⟩, fun i d hi hd => ?_, E.dis, E.fx, fun b w h => ?_, fun b h => ra.dm b (E.dom b h), fun b o w h => ?_, fun b h => ?_⟩
  · obtain ⟨b, h1, h2, h3⟩ := E.own i d hi hd
    have ne : b ≠ a := fun e => no (e ▸ .inr ⟨i, hi, some_ne hd, h1⟩)
    exact ⟨b, h1, h2.adv ra (upd_ne ne), h3⟩
  · by_cases e : b = a
    · subst e
      rcases E.fr b w h with z | z | ⟨o, z⟩
      · exact .inl z
      · rw [hu] at z; cases z; exact .inr (.inr ⟨od, List.mem_cons_self⟩)
      · exact .inr (.inr ⟨o, List.mem_cons_of_mem _ z⟩)
    · rcases E.fr b w h with z | z | ⟨o, z⟩
      · exact .inl z
      · exact .inr (.inl (by rw [upd_ne e]; exact z))
      · exact .inr (.inr ⟨o, List.mem_cons_of_mem _ z⟩)
  · rcases List.mem_cons.mp h with e | h
    · cases e
      exact ⟨upd_same, mu⟩
    · have hb := E.lks b o w h
      have ne : b ≠ a := fun e => by
        rw [e, hu] at hb
        cases hb.1
        exact mut_nofrz mu
      exact ⟨by rw [upd_ne ne]; exact hb.1, hb.2⟩
  · obtain ⟨v, h1, h2⟩ := E.o0 b h
    exact ⟨v, ra.st b v |> fun _ => (by
      have ne : b ≠ a := fun e => no (e ▸ .inl h)
      rcases h1 with h1 | ⟨o, h1⟩
      · exact .inl (by rw [upd_ne ne]; exact h1)
      · exact .inr ⟨o, by rw [upd_ne ne]; exact h1⟩), h2⟩
theorem ra_unlock (mu : Mut (some u)) (hl : H' a = some (.frz od u)) : RAp ((C.lock a od u).O S σ' ρ') H' (C.O S σ' ρ') (upd H' a u) := by
  refine ⟨fun b w n pw h => ?_, fun b z => .inl z⟩
  by_cases e : b = a
  · subst e
    rcases h with h | ⟨o, h⟩
    · rw [hl] at h
      cases h
      cases u with
      | tup _ => exact mu.elim
      | _ => exact pw.elim
    · rw [hl] at h; cases h; exact .inl upd_same
  · rcases h with h | ⟨o, h⟩
    · exact .inl (by rw [upd_ne e]; exact h)
    · exact .inr ⟨o, by rw [upd_ne e]; exact h⟩
theorem ER.unlock (E : ER K S C σ H ρ) (hu : H a = some u) (mu : Mut (some u)) (no : ¬ C.O S σ ρ a) (E' : ER K S (C.lock a od u) σ' H' ρ') : ER K S C σ' (upd H' a u) ρ' := by
  have hl : H' a = some (.frz od u) := (E'.lks a od u List.mem_cons_self).1
  have ra := ra_unlock (C := C) (S := S) (σ' := σ') (ρ' := ρ') mu hl
  refine ⟨E'.len, fun i d hi hd => let ⟨v, h1, h2⟩ := E'.sh i d hi hd; ⟨v, h1, h2.advp ra⟩, fun i d hi hd => ?_, E'.dis, E'.fx, fun b w h => ?_, fun b h => ?_, fun b o w h => ?_, fun b h => ?_⟩
  · obtain ⟨b, h1, h2, h3⟩ := E'.own i d hi hd
    have ne : b ≠ a := fun e => h2.nofrz (e ▸ hl)
    exact ⟨b, h1, h2.advp ra (upd_ne ne), h3⟩
  · by_cases e : b = a
    · subst e
      rcases E.fr b w h with z | z | ⟨o, z⟩
      · exact .inl z
      · rw [hu] at z; cases z; exact .inr (.inl upd_same)
      · exact .inr (.inr ⟨o, z⟩)
    · rcases E'.fr b w h with z | z | ⟨o, z⟩
      · exact .inl z
      · exact .inr (.inl (by rw [upd_ne e]; exact z))
      · rcases List.mem_cons.mp z with q | z
        · cases q; exact (e rfl).elim
        · exact .inr (.inr ⟨o, z⟩)
  · by_cases e : b = a
    · subst e; rw [upd_same]; exact some_ne rfl
    · rw [upd_ne e]; exact E'.dom b h
  · have hb := E.lks b o w h
    have ne : b ≠ a := fun e => by
      rw [e, hu] at hb
      cases hb.1
      exact mut_nofrz mu
    exact ⟨by rw [upd_ne ne]; exact (E'.lks b o w (List.mem_cons_of_mem _ h)).1, hb.2⟩
  · have ne : b ≠ a := fun e => no (e ▸ .inl h)
    obtain ⟨v, h1, h2⟩ := E'.o0 b h
    refine ⟨v, ?_, h2⟩
    rcases h1 with h1 | ⟨o, h1⟩
    · exact .inl (by rw [upd_ne ne]; exact h1)
    · exact .inr ⟨o, by rw [upd_ne ne]; exact h1⟩
theorem adv_unlock (hu : H a = some u) (nM : ¬ EC.M S σ ρ a) (A : Adv ((C.lock a od u).mo S σ ρ) (upd H a (.frz od u)) ((C.lock a od u).mo S σ' ρ') H') : Adv (C.mo S σ ρ) H (C.mo S σ' ρ') (upd H' a u) where
  st := fun b w n h => by
    by_cases e : b = a
    · subst e; rw [hu] at h; cases h; exact upd_same
    · rw [upd_ne e]; exact A.st b w n (by rw [upd_ne e]; exact h)
  mn := fun b z => (A.mn b z).imp id fun q => by
    by_cases e : b = a
    · subst e; rw [upd_same] at q; cases q
    · rw [upd_ne e] at q; exact q
  on := fun b z => (A.on b z).imp id fun q => by
    by_cases e : b = a
    · subst e; rw [upd_same] at q; cases q
    · rw [upd_ne e] at q; exact q
  dm := fun b h => by
    by_cases e : b = a
    · subst e; rw [upd_same]; exact some_ne rfl
    · rw [upd_ne e]; exact A.dm b (by rw [upd_ne e]; exact h)
end
end EV

namespace EV
open PySem PySem.Spec L2 SX
open PyProof.Rows hiding St
section
variable {X : Cx} {S : ES} {W : WX} {pos : Pos} {tg : Expr} {g : D → Env → Res Env}
/-- what a walk gives, while nothing that may not change does -/
structure ItA (K : PySem.W.Frag) (S : ES) (J : It) (xs : List D) (m : MO) (H : Hp) : Prop where
  go : ∀ (m1 : MO) H1 i, Adv m H m1 H1 → i < xs.length → J.go i H1
  stop : ∀ (m1 : MO) H1, Adv m H m1 H1 → J.stop xs.length H1
  yld : ∀ (C : EC) (S' : ES) σ H1 ρ i x H2 d, S'.T = S.T → ER K S' C σ H1 ρ → Adv m H (C.mo S' σ ρ) H1 → J.yld i H1 x H2 → xs[i]? = some d → Ex H1 H2 ∧ Rep K S'.T (C.O S' σ ρ) H2 x d
/-- the turns of a loop, from what is walked -/
theorem for_core {ts : List Nat} {B : SS} {tt : TG} {tb : TS} {J : It} {xs : List D} {C : EC} {σ : St} {H1 : Hp} {ρ1 : Env} {D : Ends}
    (qg : ∀ (C : EC) (σ : St) (H : Hp) (ρ : Env) (v : V) (d : EV.D) (Q : St → Hp → Prop), ER X.K S C σ H ρ → Rep X.K S.T (C.O S σ ρ) H v d →
      Wp (g d ρ) (fun _ _ => False) (fun ρ' => ∀ σ' H', ER X.K S C σ' H' ρ' → Adv (C.mo S σ ρ) H (C.mo S σ' ρ') H' → (∀ vs, (∀ i, i ∈ ts → i ∈ vs) → wipe σ' vs = wipe σ vs) → Q σ' H') → tt v σ H Q)
    (qb : ∀ (C : EC) (σ : St) (H : Hp) (ρ : Env) (E : Ends), ER X.K S C σ H ρ →
      Wp (B ρ) (XOk X.K S W C) (fun r => ∀ σ' H', ER X.K S C σ' H' r.2 → Adv (C.mo S σ ρ) H (C.mo S σ' r.2) H' → EndOk X.K S C E r.1 r.2 σ' H') → tb E σ H)
    (E1 : ER X.K S C σ H1 ρ1) (I1 : ItA X.K S J xs (C.mo S σ ρ1) H1)
    (w1 : Wp (forL g B xs ρ1) (XOk X.K S W C) (fun r => ∀ σ2 H2, ER X.K S C σ2 H2 r.2 → Adv (C.mo S σ ρ1) H1 (C.mo S σ2 r.2) H2 → EndOk X.K S C D r.1 r.2 σ2 H2)) :
    ∃ Wm : Nat → Nat → St → Hp → Prop, (∃ m, Wm 0 m σ H1) ∧ ∀ i m σ H, Wm i m σ H →
      (J.stop i H ∧ D.nx σ H) ∨ (J.go i H ∧ ∃ N : St → Hp → Prop, (∀ σ' H', N σ' H' → ∃ m', m' < m ∧ Wm (i + 1) m' σ' H') ∧ ∀ x H', J.yld i H x H' → tt x σ H' fun σ2 H2 => tb { D with nx := N, ct := N, bk := D.nx } σ2 H2) := by
  refine ⟨fun i m σ' H' => m = xs.length - i ∧ i ≤ xs.length ∧ ∃ ρ', ER X.K S C σ' H' ρ' ∧ Adv (C.mo S σ ρ1) H1 (C.mo S σ' ρ') H' ∧
    Wp (forL g B (xs.drop i) ρ') (XOk X.K S W C) (fun r => ∀ σ2 H2, ER X.K S C σ2 H2 r.2 → Adv (C.mo S σ ρ1) H1 (C.mo S σ2 r.2) H2 → EndOk X.K S C D r.1 r.2 σ2 H2), ⟨xs.length, rfl, Nat.zero_le _, ρ1, E1, .refl _ _, w1⟩, ?_⟩
  rintro i m σ' H' ⟨rfl, hi, ρ', E', A', w'⟩
  by_cases hlt : i < xs.length
  · refine .inr ⟨I1.go (C.mo S σ' ρ') H' i A' hlt, fun σ2 H2 => ∃ ρ2, ER X.K S C σ2 H2 ρ2 ∧ Adv (C.mo S σ ρ1) H1 (C.mo S σ2 ρ2) H2 ∧
      Wp (forL g B (xs.drop (i + 1)) ρ2) (XOk X.K S W C) (fun r => ∀ σ2 H2, ER X.K S C σ2 H2 r.2 → Adv (C.mo S σ ρ1) H1 (C.mo S σ2 r.2) H2 → EndOk X.K S C D r.1 r.2 σ2 H2), fun σ2 H2 ⟨ρ2, E2, A2, w2⟩ => ⟨xs.length - (i + 1), by omega, rfl, hlt, ρ2, E2, A2, w2⟩, fun x H2 y => ?_⟩
    rw [drop_at hlt] at w'
    obtain ⟨ex, rp⟩ := I1.yld C S σ' H' ρ' i x H2 xs[i] rfl E' A' y (by simp [hlt])
    refine qg C σ' H2 ρ' x xs[i] _ (E'.ext ex) rp ((noErr_wp w').mono (fun _ _ h => h) fun ρ3 _ w3 σ3 H3 E3 A3 _ => ?_)
    have A3' := (A'.trans ex.adv).trans A3
    refine qb C σ3 H3 ρ3 _ E3 ((Wp.bind w3).mono (fun _ _ h => h) fun r4 _ w4 σ4 H4 E4 A4 => ?_)
    obtain ⟨fl, ρ4⟩ := r4
    cases fl with
    | nx => exact ⟨ρ4, E4, A3'.trans A4, w4⟩
    | cont => exact ⟨ρ4, E4, A3'.trans A4, w4⟩
    | brk => exact w4 σ4 H4 E4 (A3'.trans A4)
    | ret d => exact w4 σ4 H4 E4 (A3'.trans A4)
  · have ei : i = xs.length := by omega
    subst ei
    rw [List.drop_length] at w'
    exact .inl ⟨I1.stop (C.mo S σ' ρ') H' A', w' σ' H' E' A'⟩
/-- the keys, the dict locked -/
theorem RepK.key {K : PySem.W.Frag} {T : Nat → Option Addr} {O : Addr → Prop} {H : Hp} : ∀ {kvs : List (Key × V)} {kds : List (Kd × D)} {i : Nat} {k : Key} {v : V} {d : D}, RepK K T O H kvs kds → kvs[i]? = some (k, v) → (kds.map fun kv => kdD kv.1)[i]? = some d → (∀ s, d = .str s → okS s) → Rep K T O H (kV k) d
  | _, _, _, _, _, _, .nil, e, _, _ => by simp at e
  | _, _, 0, k, v, d, .cons (k := j) _ _, e, e2, hs => by
    have e' : (kdK j, _) = (k, v) := Option.some.inj e
    cases e'
    have e2' : kdD j = d := Option.some.inj e2
    subst e2'
    cases j with
    | inl i => exact .int i
    | inr s => exact .str s (hs s rfl)
  | _, _, i + 1, k, v, d, .cons _ h, e, e2, hs => h.key (i := i) (by simpa using e) (by simpa using e2) hs
def okKs (kds : List (Kd × D)) : Bool := kds.all fun kv => match kv.1 with | .inl _ => true | .inr s => s.all fun c => decide (c < 1114112)
theorem okKs_at {kds : List (Kd × D)} (h : okKs kds = true) {i : Nat} {s : List Nat} (e : (kds.map fun kv => kdD kv.1)[i]? = some (.str s)) : okS s := by
  rw [List.getElem?_map] at e
  obtain ⟨kv, h1, h2⟩ := Option.map_eq_some_iff.mp e
  have := List.all_eq_true.mp h kv (List.mem_of_getElem? h1)
  obtain ⟨k, d⟩ := kv
  cases k with
  | inl i => cases h2
  | inr s' =>
    cases h2
    exact fun c hc => of_decide_eq_true (List.all_eq_true.mp this c hc)
theorem ita_keys {m : MO} {H : Hp} {a : Addr} {od : Obj} {kvs : List (Key × V)} {kds : List (Kd × D)} (n : ¬ m.M a) (h : H a = some (.frz od (.dK kvs))) (hr : RepK X.K S.T m.O H kvs kds) (ok : okKs kds = true) : ItA X.K S (Itk a od kvs) (kds.map fun kv => kdD kv.1) m H where
  go := fun m1 H1 i A hi => ⟨A.st a _ n h, by rw [hr.length]; simpa using hi⟩
  stop := fun m1 H1 A => ⟨A.st a _ n h, by rw [hr.length, List.length_map]; exact Nat.le_refl _⟩
  yld := fun C S' σ H1 ρ i x H2 d hT E A y e => by
    obtain ⟨rfl, k, v, e1, rfl⟩ := y
    rw [hT]
    exact ⟨Ex.refl _, (RepK.adv A.ra _ _ hr).key e1 e fun s es => okKs_at ok (es ▸ e)⟩
/-- for x in d, d a name that is not changed -/
def sForK (i : Nat) (g : D → Env → Res Env) (B : SS) : SS := fun ρ => match gt ρ i with
  | some (.dk kds) => bif okKs kds then forL g (fun ρ => noErr (B ρ)) (kds.map fun kv => kdD kv.1) ρ else .stuck
  | _ => .stuck
theorem noErr_wp0 {α : Type} {r : Res α} {X X' : Nat → D → Prop} {Q : α → Prop} (h : Wp (noErr r) X Q) : Wp r X' Q := by
  cases r with
  | ok a => exact h
  | err c p => exact h.elim
  | stuck => exact h.elim
theorem noErr_for {g : D → Env → Res Env} {B : SS} {X X' : Nat → D → Prop} {Q : Fl × Env → Prop} : ∀ (xs : List D) (ρ : Env), Wp (forL g (fun ρ => noErr (B ρ)) xs ρ) X Q → Wp (forL g (fun ρ => noErr (B ρ)) xs ρ) X' Q
  | [], _, h => h
  | d :: ds, ρ, h => by
    have e0 : forL g (fun ρ => noErr (B ρ)) (d :: ds) ρ = (noErr (g d ρ) >>= fun ρ1 => noErr (B ρ1) >>= fun r => match r.1 with
      | .nx => forL g (fun ρ => noErr (B ρ)) ds r.2
      | .cont => forL g (fun ρ => noErr (B ρ)) ds r.2
      | .brk => .ok (.nx, r.2)
      | .ret v => .ok (.ret v, r.2)) := rfl
    rw [e0] at h ⊢
    cases hg : g d ρ with
    | err c p => rw [hg] at h; exact h.elim
    | stuck => rw [hg] at h; exact h.elim
    | ok ρ1 =>
      rw [hg] at h
      simp only [r_noErr', ok_bind] at h ⊢
      cases hb : B ρ1 with
      | err c p => rw [hb] at h; exact h.elim
      | stuck => rw [hb] at h; exact h.elim
      | ok r =>
        rw [hb] at h
        simp only [r_noErr', ok_bind] at h ⊢
        obtain ⟨fl, ρ2⟩ := r
        cases fl with
        | nx => exact noErr_for ds ρ2 h
        | cont => exact noErr_for ds ρ2 h
        | brk => exact h
        | ret v => exact h
where r_noErr' {α : Type} (a : α) : noErr (.ok a : Res α) = .ok a := rfl
theorem ps_alt {st : Stmt} {t t' : TS} (h : PS X st t) (h' : PS X st t') : PS X st (fun D σ H => t D σ H ∨ t' D σ H) :=
  ⟨fun pins s σ H D I q => q.elim (h.run pins s σ H D I) (h'.run pins s σ H D I)⟩
/-- the ends of a loop that runs under a lock -/
theorem end_unlock {C : EC} {σ σ' : St} {H H' : Hp} {ρ ρ' : Env} {a : Addr} {od : Obj} {u : HO} {D : Ends} {fl : Fl} (mu : Mut (some u)) (hl : H' a = some (.frz od u)) (h : EndOk X.K S C D fl ρ' σ' (upd H' a u)) :
    EndOk X.K S (C.lock a od u) ⟨fun σ' H' => H' a = some (.frz od u) ∧ D.nx σ' (upd H' a u), fun v H' => H' a = some (.frz od u) ∧ D.rt v (upd H' a u), fun σ' H' => H' a = some (.frz od u) ∧ D.bk σ' (upd H' a u), fun σ' H' => H' a = some (.frz od u) ∧ D.ct σ' (upd H' a u)⟩ fl ρ' σ' H' := by
  cases fl with
  | nx => exact ⟨hl, h⟩
  | brk => exact ⟨hl, h⟩
  | cont => exact ⟨hl, h⟩
  | ret d => exact fun v rp => ⟨hl, h v (Rep.advp (ra_unlock mu hl) d v rp)⟩
theorem es_forK {i : Nat} {x : Str} {p : Pos} {ts : List Nat} {body : List Stmt} {B : SS} (hp : PassesOwn (model X.prog X.w) X.A X.env X.xe) (hc : X.calm = true) (ho : i ∉ S.ow) (hN : X.N[i]? = some x) (hv : Vis X.env.scope x) (hg : EvG X S ts tg g) (hb : EvB X S W body B)
    (hs : ∀ z, foldedSetIterable (.Name x p) X.env z = pure z := by intro _; rfl) (hd : (x == ("__debug__" : Str)) = false := by decide) (hcd : (x == ("__classdict__" : Str)) = false := by decide) : EvS X S W (.For tg (.Name x p) body [] pos) (sForK i g B) := by
  obtain ⟨tt, pg, qg⟩ := hg
  obtain ⟨tb, pb, qb⟩ := hb
  have hq : PS X (.For tg (.Name x p) body [] pos) (tFor (iKeys (tVar i)) tt tb) := ps_for hp hc (pi_keys (pe_var hN hv hd hcd)) pg pb hs
  refine ⟨_, ps_alt (ps_lock hq) hq, fun C σ H ρ D E w => ?_⟩
  have qb' : ∀ (C : EC) (σ : St) (H : Hp) (ρ : Env) (E : Ends), ER X.K S C σ H ρ → Wp (noErr (B ρ)) (XOk X.K S W C) (fun r => ∀ σ' H', ER X.K S C σ' H' r.2 → Adv (C.mo S σ ρ) H (C.mo S σ' r.2) H' → EndOk X.K S C E r.1 r.2 σ' H') → tb E σ H :=
    fun C σ H ρ Ed E w => qb C σ H ρ Ed E (noErr_wp0 w)
  unfold sForK at w
  split at w
  · rename_i kds hk
    cases ok : okKs kds with
    | false => rw [ok] at w; exact w.elim
    | true =>
      rw [ok] at w
      have w : Wp (forL g (fun ρ => noErr (B ρ)) (kds.map fun kv => kdD kv.1) ρ) (XOk X.K S W C) (fun r => ∀ σ' H', ER X.K S C σ' H' r.2 → Adv (C.mo S σ ρ) H (C.mo S σ' r.2) H' → EndOk X.K S C D r.1 r.2 σ' H') := w
      obtain ⟨v, hv1, rp⟩ := E.sh i _ ho hk
      cases rp with
      | @dk a kvs _ no hrd rk =>
        have nM : ¬ EC.M S σ ρ a := fun z => no (.inr z)
        rcases hrd with hrd | ⟨o, hrd⟩
        · refine .inl ⟨a, .dK kvs, hrd, trivial, fun od => ?_⟩
          have E1 := E.lock (od := od) hrd trivial no
          have ra : RA (C.O S σ ρ) H ((C.lock a od (.dK kvs)).O S σ ρ) (upd H a (.frz od (.dK kvs))) := by
            refine ⟨fun b w n h => ?_, fun b z => .inl z, fun b h => ?_⟩
            · by_cases e : b = a
              · subst e
                rcases h with h | ⟨o, h⟩
                · rw [hrd] at h; cases h; exact .inr ⟨od, upd_same⟩
                · rw [hrd] at h; cases h
              · rcases h with h | ⟨o, h⟩
                · exact .inl (by rw [upd_ne e]; exact h)
                · exact .inr ⟨o, by rw [upd_ne e]; exact h⟩
            · by_cases e : b = a
              · subst e; rw [upd_same]; exact some_ne rfl
              · rw [upd_ne e]; exact h
          refine ⟨.ref a, hv1, a, od, rfl, .inl ⟨kvs, upd_same, ?_⟩⟩
          refine for_core (C := C.lock a od (.dK kvs)) qg qb' E1 (ita_keys (m := (C.lock a od (.dK kvs)).mo S σ ρ) nM upd_same (RepK.adv ra _ _ rk) ok) ?_
          refine (noErr_for _ _ w).mono (fun _ _ h => h) fun r _ h σ2 H2 E2 A2 => ?_
          have hl := (E2.lks a od _ List.mem_cons_self).1
          exact end_unlock (H := H) (ρ := ρ) (σ := σ) trivial hl (h σ2 _ (E.unlock hrd trivial no E2) (adv_unlock hrd nM A2))
        · refine .inr ⟨.ref a, hv1, a, o, rfl, .inl ⟨kvs, hrd, ?_⟩⟩
          exact for_core qg qb' E (ita_keys (m := C.mo S σ ρ) nM hrd rk ok) w
  · exact w.elim
end
end EV

namespace EV
open PySem PySem.Spec L2 SX
open PyProof.Rows hiding St
section
variable {X : Cx} {S : ES} {W : WX} {pos : Pos}
/-! ### a dict beside {} -/
def rEqK0 (neg : Bool) : R2 := fun x y H Q => ∃ a b kvs, x = .ref a ∧ y = .ref b ∧ Rd H a (.dK kvs) ∧ Rd H b (.dK []) ∧ Q (.bl (kvs.isEmpty != neg)) H
theorem op_eqK0 (hu : X.A.units + 64 < cLine) : OpR X (compareOp .Eq) (rEqK0 false) := by
  intro pins s σ H x y v u Q I rx ry h
  obtain ⟨a, b, kvs, rfl, rfl, ha, hb, q⟩ := h
  cases rx
  cases ry
  obtain ⟨_, ha1, ka, ra, da⟩ := dk_rd I.hok ha
  obtain ⟨_, hb1, kb, rb, db⟩ := dk_rd I.hok hb
  cases rb
  refine PySem.W.keq_eq (r := true) ha1 hb1 da db (by omega) (fun hl => ?_) ⟨_, H, I, ?_, q⟩
  · have : ka = [] := List.eq_nil_of_length_eq_zero hl
    subst this
    exact .nil
  · cases ra <;> rfl
theorem op_neK0 (hu : X.A.units + 64 < cLine) : OpR X (compareOp .NotEq) (rEqK0 true) := by
  intro pins s σ H x y v u Q I rx ry h
  obtain ⟨a, b, kvs, rfl, rfl, ha, hb, q⟩ := h
  cases rx
  cases ry
  obtain ⟨_, ha1, ka, ra, da⟩ := dk_rd I.hok ha
  obtain ⟨_, hb1, kb, rb, db⟩ := dk_rd I.hok hb
  cases rb
  refine PySem.W.keq_ne (r := true) ha1 hb1 da db (by omega) (fun hl => ?_) ⟨_, H, I, ?_, q⟩
  · have : ka = [] := List.eq_nil_of_length_eq_zero hl
    subst this
    exact .nil
  · cases ra <;> rfl
def dEqK0 (neg : Bool) : D → D → Option D
  | .dk a, .dk [] => some (.bl (a.isEmpty != neg))
  | _, _ => none
theorem dEqK0_some {neg : Bool} {a b d : D} (h : dEqK0 neg a b = some d) : ∃ ks, a = .dk ks ∧ b = .dk [] ∧ d = .bl (ks.isEmpty != neg) := by
  unfold dEqK0 at h
  split at h
  · cases h; exact ⟨_, rfl, rfl, rfl⟩
  · cases h
theorem RepK.isEmpty {K : PySem.W.Frag} {T : Nat → Option Addr} {O : Addr → Prop} {H : Hp} {kvs : List (Key × V)} {kds : List (Kd × D)} (h : RepK K T O H kvs kds) : kvs.isEmpty = kds.isEmpty := by cases h <;> rfl
theorem od_eqK0 {neg : Bool} {f : Value → Value → Sem Value} (h : OpR X f (rEqK0 neg)) : OpD X f (dEqK0 neg) := by
  refine ⟨_, h, fun T O H v1 v2 d1 d2 d Q oh h1 h2 e w => ?_⟩
  obtain ⟨ks, rfl, rfl, rfl⟩ := dEqK0_some e
  obtain ⟨a, kvs, rfl, r1, k1⟩ := h1.dk
  obtain ⟨b, kvs2, rfl, r2, k2⟩ := h2.dk
  cases k2
  refine ⟨a, b, kvs, rfl, rfl, r1, r2, ?_⟩
  rw [k1.isEmpty]
  exact w _ H (Ex.refl H) (.bl _)
def dEqA (a b : D) : Option D := (dEq a b).or (dEqK0 false a b)
def dNeA (a b : D) : Option D := (dNe a b).or (dEqK0 true a b)
theorem od_eqA (hu : X.A.units + 64 < cLine) : OpD X (compareOp .Eq) dEqA := (od_eq hu).or (od_eqK0 (op_eqK0 hu))
theorem od_neA (hu : X.A.units + 64 < cLine) : OpD X (compareOp .NotEq) dNeA := (od_ne hu).or (od_eqK0 (op_neK0 hu))

/-! ### min(d.values()) -/
def tMinVD (K : PySem.W.Frag) (td : TE) : TE := fun σ H Q => td σ H fun x H1 => ∃ (a : Addr) (kvs : List (Key × V)) (ps : List PyData), x = V.ref a ∧ Rd H1 a (.dK kvs) ∧ DpAll K H1 (kvs.map (·.2)) ps ∧ PySem.W.AlikeAll ps ∧ PyData.depthAll ps ≤ 64 ∧ 0 < kvs.length ∧
  ∀ v, (kvs.map (·.2))[argBest (btP ps) (kvs.length - 1)]? = some v → Q v H1
variable {o : Expr} {p apos mpos : Pos} {td : TE}
theorem kv_vals {kvs : List (Key × V)} {vs : List (Key × Value)} (r : KV kvs vs) : Vals (kvs.map (·.2)) (vs.map (·.2)) := by
  unfold KV at r
  induction r with
  | nil => exact .nil
  | cons h t ih => exact .cons h.2 ih
theorem pe_minVD (hc : X.calm = true) (hu : X.A.units + 65 < cLine) (hg : Gl X "min") (hm : X.mg "min" = none) (hd : PE X o td) (hbase : attributeBase o "values" X.env (eval o X.env) = eval o X.env := by rfl) (hline : (apos.endLine == mpos.line) = true := by rfl)
    (hse : starEach [Expr.Call (.Attribute o "values" apos) [] [] mpos] X.env = [(false, eval (Expr.Call (.Attribute o "values" apos) [] [] mpos) X.env)] := by rfl) :
    PE X (.Call (.Name "min" p) [.Call (.Attribute o "values" apos) [] [] mpos] [] pos) (tMinVD X.K td) := by
  refine ⟨fun pins s σ H Q I h => ?_⟩
  refine wpAny_Call_Name_kw (ld_blt I hg hm (u := .builtin "min") (by first | rfl | decide +kernel) ?_ (by first | decide +kernel | decide) (by first | decide +kernel | decide))
  rw [hse]
  refine PySem.callWith_builtin1 (wpAny_Call_method0_late hbase hline (thn (hd.run pins s σ H _ I h) fun v s1 ⟨x, H1, I1, r1, a, kvs, ps, ex, ha, hdp, hal, hdep, hne, q⟩ => ?_))
  subst ex
  obtain rfl : v = Value.ref a := r1
  obtain ⟨_, hsys, vs, rel, dof⟩ := dk_rd I1.hok ha
  obtain ⟨ep, dat⟩ := dof.dictAt
  have dat' := dat
  obtain ⟨ob, es, ho, ex, hdat, hko, hpr, hnd⟩ := dat'
  refine ⟨"dict", "dict.values", F.plainAttrs_dict, F.slot_dict_values, F.type_dict_values, ⟨ob, ho, ex.1⟩, fun b e => ?_, Calls.callWith_builtin rfl (PySem.evalArgs_none ?_)⟩
  · cases e
    exact ⟨ob, ho, ex.2.1⟩
  refine call_meetsIn F.slot_dict_values ⟨ob, ho, ex.1⟩ F.entry_dict_values (F.args_dict_values_1 _) (meets_dict_values (mixKind X.prog X.w) a hsys) ⟨⟨vs, dof⟩, ?_⟩
  have k1 : ∀ b u, s1.heap.get? b = some u → (s1.heap.push { cls := .type "dict_values", data := .fields #[.ref a] }).get? b = some u := fun b u e => Heap.get?_push_of_some _ e
  have dat1 : (s1.heap.push { cls := .type "dict_values", data := .fields #[.ref a] }).DictAt (mixKind X.prog X.w) a vs ep := dat.keep k1
  have rv := kv_vals rel
  obtain ⟨as, hr⟩ := Dp.readsAll I1 ps _ _ hdp rv
  have hlv : vs.length = kvs.length := (KV.length rel).symm
  have hlt : a < s1.heap.objs.size := Heap.lt_size ho
  have hsz : (s1.heap.push { cls := .type "dict_values", data := .fields #[.ref a] }).objs.size = s1.heap.objs.size + 1 := Heap.size_push _ _
  have hcmp := PySem.W.cmpIn_lt (prog := X.prog) (w := X.w) (A := X.A.in1) (s := s1) (vs := (vs.map (·.2)).toArray) hr hal (by show X.A.units + 1 + _ < _; omega)
  refine call_min_walkH (wpAny_pyIter_values (v := s1.heap.objs.size) (d := a) ⟨_, Heap.get?_push_size _ rfl, rfl, rfl⟩ dat1 ?_)
  refine ⟨_, _, _, _, vs.length, fun i v => ∃ k, vs[i]? = some (k, v), _, s1.heap, btP ps, rfl, (Walks.dictValues (knd := mixKind X.prog X.w) (A := X.A.in1) (I.ok.hd hc) (s1.heap.push { cls := .type "dict_values", data := .fields #[.ref a] }).objs.size a (by rw [hsz]; exact Nat.ne_of_lt (Nat.lt_succ_of_lt hlt)) vs ep).toS,
    ⟨⟨_, Heap.get?_push_size _ rfl, rfl, rfl⟩, dat1.keep fun b u e => Heap.get?_push_of_some _ e⟩, fun b hb => ?_, by omega, fun b o e hb => ?_, fun b o e => Heap.get?_push_of_some _ (k1 b o e), fun i j vi vj s' Q' E' hk hi hj hq => ?_, fun v s' hP m => ?_⟩
  · show b < ((s1.heap.push _).push _).objs.size
    rw [Heap.size_push, Heap.size_push]
    rw [hsz] at hb
    rcases List.mem_cons.mp hb with e | hb
    · rw [e]
      exact Nat.lt_succ_self _
    · have e : b = a := List.mem_singleton.mp hb
      rw [e]
      exact Nat.lt_succ_of_lt (Nat.lt_succ_of_lt hlt)
  · have e1 : b = (s1.heap.push { cls := .type "dict_values", data := .fields #[.ref a] }).objs.size := List.mem_singleton.mp hb
    have e2 := Heap.lt_size e
    rw [hsz] at e1
    rw [e1] at e2
    exact absurd e2 (Nat.not_lt.mpr (Nat.le_succ _))
  · obtain ⟨k, hk1⟩ := hi
    obtain ⟨k', hk2⟩ := hj
    exact hcmp i j vi vj s' Q' E' hk (by simp [hk1]) (by simp [hk2]) hq
  · obtain ⟨h', tk, rfl, hk'⟩ := PySem.W.moved_old (s := { s1 with heap := s1.heap.push { cls := .type "dict_values", data := .fields #[.ref a] } }) rfl rfl m
    obtain ⟨k, hk1⟩ := hP
    rw [hlv] at hk1
    obtain ⟨y, h1, h2⟩ := vals_at (i := argBest (btP ps) (kvs.length - 1)) rv (by rw [List.getElem?_map, hk1]; rfl)
    exact ⟨y, H1, I1.kept fun b o e => hk' b o (k1 b o e), h2, q y h1⟩
def minV : D → Option D
  | .dk kds => match kds.map (·.2) with
    | x :: xs => if alkAll (x :: xs) = true then some (bestD D.ltb x xs) else none
    | [] => none
  | _ => none
theorem RepK.vals {K : PySem.W.Frag} {T : Nat → Option Addr} {O : Addr → Prop} {H : Hp} : ∀ {kvs : List (Key × V)} {kds : List (Kd × D)}, RepK K T O H kvs kds → Reps K T O H (kvs.map (·.2)) (kds.map (·.2))
  | _, _, .nil => .nil
  | _, _, .cons h1 h2 => .cons h1 h2.vals
theorem ev_minV {f : SE} (hc : X.calm = true) (hu : X.A.units + 65 < cLine) (hg : Gl X "min") (hm : X.mg "min" = none) (hd : EvE X S W o f) (hbase : attributeBase o "values" X.env (eval o X.env) = eval o X.env := by rfl) (hline : (apos.endLine == mpos.line) = true := by rfl)
    (hse : starEach [Expr.Call (.Attribute o "values" apos) [] [] mpos] X.env = [(false, eval (Expr.Call (.Attribute o "values" apos) [] [] mpos) X.env)] := by rfl) :
    EvE X S W (.Call (.Name "min" p) [.Call (.Attribute o "values" apos) [] [] mpos] [] pos) (eUn minV f) := by
  obtain ⟨t, pt, q⟩ := hd
  refine ⟨_, pe_minVD hc hu hg hm pt hbase hline hse, fun C σ H ρ Q E w => ?_⟩
  refine q C σ H ρ _ E ((Wp.bind w).mono (fun _ _ h => h) fun r1 _ w1 v H1 E1 A1 R1 => ?_)
  obtain ⟨d, e1, w2⟩ := deref_wp w1
  obtain ⟨d', e2, w3⟩ := opt_wp w2
  have rt := R1.rt E1 e1
  unfold minV at e2
  split at e2
  · rename_i kds
    split at e2
    · rename_i x xs hx
      split at e2
      · rename_i ha
        cases e2
        obtain ⟨a, kvs, rfl, r1, k1⟩ := rt.dk
        have rv := k1.vals
        rw [hx] at rv
        have hl := rv.length
        rw [List.length_cons, List.length_map] at hl
        obtain ⟨a1, a2⟩ := alkAll_py ha
        have ba := best_at (p := fun a b => PySem.W.dataLt a b) (f := D.ltb) (alkAll_of ha).1 fun a b ha hb => py_lt ha hb
        refine ⟨a, kvs, pyL (x :: xs), rfl, r1, (Reps.dp _ _ rv (alkAll_of ha).1).1, a1, a2, by omega, fun v hv => ?_⟩
        rw [hl] at hv
        exact w3 v H1 E1 A1 (rv.get' hv ba)
      · cases e2
    · cases e2
  · cases e2
/-! ### a tuple of the module's own -/
theorem ev_gtup {x : Str} {a : Addr} {vs : List V} {ds : List D} (hg : Gl X x) (h : X.mg x = some (.ref a)) (ht : ∀ O H, ShT X.K O H a vs) (hr : ∀ O H, Reps X.K S.T O H vs ds) (hd : (x == ("__debug__" : Str)) = false := by decide) : EvE X S W (.Name x pos) (eC (.tup ds)) :=
  ev_glob (v := .ref a) hg h rfl (fun O H => .tup (ht O H) (hr O H)) hd
end
end EV

namespace EV
open PySem PySem.Spec L2 SX
open PyProof.Rows hiding St
/-! ### the head's hook with facts of one's own -/
abbrev Ex0 := PySem.W.Frag → Bool
def obsX (fa : List He.Fa) (ex : Ex0) (fn : List He.DefD) (K : PySem.W.Frag) : He.AlD := ((fa.all fun f => f.ok K) && ex K && fn.all fun d => d.ok K, fn.map fun d => He.fnW K d.at_)
def SaysX (fa : List He.Fa) (ex : Ex0) (fn : List He.DefD) (K : PySem.W.Frag) : Prop := obsX fa ex fn K = He.valD fn
def obsXG (n : Nat) (fa : List He.Fa) (ex : Ex0) (fn : List He.DefD) (g : Addr → Option Obj) : He.AlD := obsX fa ex fn (He.frG g (He.asD g n))
def hookX (n : Nat) (fa : List He.Fa) (ex : Ex0) (fn : List He.DefD) : PySem.W.Hook where
  α := He.AlD
  obs := fun s => obsXG n fa ex fn s.heap.get?
  val := fun _ => He.valD fn
  says := fun _ h => ∃ K : PySem.W.Frag, K.In h ∧ SaysX fa ex fn K
  of := fun _ _ e => ⟨_, He.frG_in, e⟩
  keeps := fun _ _ _ ⟨K, hK, c⟩ k => ⟨K, PySem.W.Frag.In.keeps hK k, c⟩
theorem obsXG_eq {n : Nat} {fa : List He.Fa} {ex : Ex0} {fn : List He.DefD} {g : Addr → Option Obj} {s : Shared} (h : ∀ a, g a = s.heap.get? a) : obsXG n fa ex fn g = (hookX n fa ex fn).obs s := by
  have e : g = s.heap.get? := funext h
  rw [e] <;> rfl
section
variable {fa : List He.Fa} {ex : Ex0} {fn : List He.DefD} {K : PySem.W.Frag}
theorem SaysX.d (c : SaysX fa ex fn K) : He.SaysD fa fn K := by
  have c1 : ((fa.all fun f => f.ok K) && ex K && fn.all fun d => d.ok K) = true := congrArg (fun z : He.AlD => z.1) c
  have c2 : fn.map (fun d => He.fnW K d.at_) = fn.map He.DefD.val := congrArg (fun z : He.AlD => z.2) c
  rw [Bool.and_eq_true, Bool.and_eq_true] at c1
  show ((fa.all fun f => f.ok K) && fn.all fun d => d.ok K, fn.map fun d => He.fnW K d.at_) = (true, fn.map He.DefD.val)
  rw [c1.1.1, c1.2, c2]
  rfl
theorem SaysX.exOk (c : SaysX fa ex fn K) : ex K = true := by
  have c1 : ((fa.all fun f => f.ok K) && ex K && fn.all fun d => d.ok K) = true := congrArg (fun z : He.AlD => z.1) c
  rw [Bool.and_eq_true, Bool.and_eq_true] at c1
  exact c1.1.2
end
/-- a tuple of numbers, texts, .. of the module's own -/
def dvD : D → Option He.Dv
  | .non => some .non
  | .bl b => some (.bl b)
  | .int i => some (.int i)
  | .str s => some (.str (SX.S s))
  | _ => none
def tupX (K : PySem.W.Frag) (x : Str) (ds : List D) : Bool := match ds.mapM dvD with
  | some vs => (He.tupB K x vs && (match K.lookup (He.ga K x) with | some o => o.dict.isNone | none => false)) && ds.all fun d => match d with | .str s => s.all (fun c => decide (c < 1114112)) | _ => true
  | none => false
theorem dvD_rep {K : PySem.W.Frag} {T : Nat → Option Addr} {O : Addr → Prop} {H : Hp} {d : D} {v : He.Dv} (h : dvD d = some v) (hs : ∀ s, d = .str s → okS s) : Rep K T O H (v.v K) d := by
  cases d <;> cases h
  · exact .non
  · exact .bl _
  · exact .int _
  · exact .str _ (hs _ rfl)
theorem dvs_rep {K : PySem.W.Frag} {T : Nat → Option Addr} {O : Addr → Prop} {H : Hp} : ∀ {ds : List D} {vs : List He.Dv}, ds.mapM dvD = some vs → (∀ s, .str s ∈ ds → okS s) → Reps K T O H (vs.map (He.Dv.v K)) ds
  | [], vs, h, _ => by
    have : vs = [] := by simpa using h.symm
    subst this
    exact .nil
  | d :: ds, vs, h, hs => by
    rw [List.mapM_cons] at h
    obtain ⟨v, h1, h2⟩ := Option.bind_eq_some_iff.mp h
    obtain ⟨ws, h3, h4⟩ := Option.bind_eq_some_iff.mp h2
    cases h4
    exact .cons (dvD_rep h1 fun s e => hs s (e ▸ List.mem_cons_self)) (dvs_rep h3 fun s m => hs s (List.mem_cons_of_mem _ m))
theorem tupX_ok {K : PySem.W.Frag} {x : Str} {ds : List D} (h : tupX K x ds = true) : ∃ vs : List V, (∀ O H, ShT K O H (He.ga K x) vs) ∧ ∀ (T : Nat → Option Addr) (O : Addr → Prop) (H : Hp), Reps K T O H vs ds := by
  unfold tupX at h
  split at h
  · rename_i vs hv
    rw [Bool.and_eq_true] at h
    refine ⟨vs.map (He.Dv.v K), fun O H => ?_, fun T O H => dvs_rep hv fun s m => ?_⟩
    · skip
      have h1 := h.1
      rw [Bool.and_eq_true] at h1
      refine .inr ⟨?_, ?_⟩
      · rcases He.tupB_ok h1.1 (fun _ => none) with hq | hq
        · rcases hq with hq | ⟨o, hq⟩ <;> cases hq
        · exact hq
      · have h2 := h1.2
        cases z : K.lookup (He.ga K x) with
        | none => rw [z] at h2; cases h2
        | some o =>
          rw [z] at h2
          exact ⟨o, rfl, Option.isNone_iff_eq_none.mp h2⟩
    · have := List.all_eq_true.mp h.2 _ m
      exact fun c hc => of_decide_eq_true (List.all_eq_true.mp this c hc)
  · cases h
theorem ev_gtupX {X : Cx} {S : ES} {W : WX} {pos : Pos} {x : Str} {ds : List D} (hg : Gl X x) (h : X.mg x = some (.ref (He.ga X.K x))) (ht : tupX X.K x ds = true) (hd : (x == ("__debug__" : Str)) = false := by decide) : EvE X S W (.Name x pos) (eC (.tup ds)) := by
  obtain ⟨vs, h1, h2⟩ := tupX_ok ht
  exact ev_gtup hg h h1 (h2 S.T) hd
section
variable {X : Cx}
def bMin2A (ds : List D) : Option D := (bMin2 ds).or (bMin2D ds)
theorem cd_min2A (hc : X.calm = true) (hu : X.A.units + 65 < cLine) : CalD X (.builtin "min") bMin2A := (cd_min2 hc).or (cd_min2D hc hu)
theorem hu1 {k : Nat} {A : Around} (h : Room k A) : A.units + 1 < cLine := by have := h.un; omega
end
def PL (n : Nat) (f : Env → Res (List (D × D) × Env)) : Prop := ∀ ρ r, f ρ = .ok r → r.1.length = n
theorem pl_nil : PL 0 ppNil := fun ρ r h => by cases h; rfl
theorem pl_cons {n : Nat} {a b : SE} {f : Env → Res (List (D × D) × Env)} (h : PL n f) : PL (n + 1) (ppCons a b f) := fun ρ r e => by
  have e' : (a ρ >>= fun r => ofOpt (valOf r.1) >>= fun d => b r.2 >>= fun r1 => ofOpt (valOf r1.1) >>= fun d1 => f r1.2 >>= fun r2 => (.ok ((d, d1) :: r2.1, r2.2) : Res (List (D × D) × Env))) = .ok r := e
  cases ha : a ρ with
  | err c p => rw [ha] at e'; cases e'
  | stuck => rw [ha] at e'; cases e'
  | ok r0 =>
    rw [ha] at e'
    cases hv : valOf r0.1 with
    | none => simp only [ok_bind, hv] at e'; cases e'
    | some d =>
      have e2 : (b r0.2 >>= fun r1 => ofOpt (valOf r1.1) >>= fun d1 => f r1.2 >>= fun r2 => (.ok ((d, d1) :: r2.1, r2.2) : Res (List (D × D) × Env))) = .ok r := by
        simp only [ok_bind, hv] at e'
        exact e'
      cases hb : b r0.2 with
      | err c p => rw [hb] at e2; cases e2
      | stuck => rw [hb] at e2; cases e2
      | ok r1 =>
        rw [hb] at e2
        cases hw : valOf r1.1 with
        | none => simp only [ok_bind, hw] at e2; cases e2
        | some d1 =>
          have e3 : (f r1.2 >>= fun r2 => (.ok ((d, d1) :: r2.1, r2.2) : Res (List (D × D) × Env))) = .ok r := by
            simp only [ok_bind, hw] at e2
            exact e2
          cases hf : f r1.2 with
          | err c p => rw [hf] at e3; cases e3
          | stuck => rw [hf] at e3; cases e3
          | ok r2 =>
            rw [hf] at e3
            cases e3
            exact congrArg (· + 1) (h _ _ hf)
theorem pl_of {n : Nat} {f : Env → Res (List (D × D) × Env)} (hn : n ≤ 15) (h : PL n f) : ∀ ρ r, f ρ = .ok r → r.1.length ≤ 15 := fun ρ r e => by rw [h ρ r e]; exact hn
end EV

namespace EV
open PySem PySem.Spec L2 SX
open PyProof.Rows hiding St
open EVT (TRow TD TAt KeysAt lookR putR mergeR)
/-! ### dicts whose keys are tuples of ints -/
def lookT (kds : List (List Int × D)) (k : List Int) : Option D := (kds.find? fun r => decide (r.1 = k)).map (·.2)
def putT (kds : List (List Int × D)) (k : List Int) (d : D) : List (List Int × D) := if (lookT kds k).isSome = true then kds.map (fun r => if r.1 = k then (r.1, d) else r) else kds ++ [(k, d)]
def keyI : D → Option (List Int)
  | .tup ks => EV.dInts ks
  | _ => none
section
variable {K : PySem.W.Frag} {T : Nat → Option Addr} {O : Addr → Prop} {H : Hp}
theorem RepT.length : ∀ {rows : List TRow} {kds : List (List Int × D)}, RepT K T O H rows kds → rows.length = kds.length
  | _, _, .nil => rfl
  | _, _, .cons _ _ h => congrArg (· + 1) h.length
theorem RepT.keys : ∀ {rows : List TRow} {kds : List (List Int × D)}, RepT K T O H rows kds → KeysAt K H rows
  | _, _, .nil => fun _ h => nomatch h
  | _, _, .cons h0 _ h => fun r hr => by
    rcases List.mem_cons.mp hr with rfl | hr
    · exact h0.sq
    · exact h.keys r hr
theorem RepT.look (k : List Int) : ∀ {rows : List TRow} {kds : List (List Int × D)}, RepT K T O H rows kds → (lookT kds k = none ∧ lookR rows k = none) ∨ ∃ v d, lookT kds k = some d ∧ lookR rows k = some v ∧ Rep K T O H v d
  | _, _, .nil => .inl ⟨rfl, rfl⟩
  | _, _, .cons (k := j) (v := v) (d := d) h0 h1 h2 => by
    by_cases e : j = k
    · subst e
      exact .inr ⟨v, d, by simp [lookT], by simp [lookR], h1⟩
    · have := h2.look k
      simpa [lookT, lookR, List.find?_cons, e] using this
theorem RepT.map (k : List Int) {v : V} {d : D} (hr : Rep K T O H v d) : ∀ {rows : List TRow} {kds : List (List Int × D)}, RepT K T O H rows kds → RepT K T O H (rows.map fun r => if r.1 = k then (r.1, r.2.1, v) else r) (kds.map fun r => if r.1 = k then (r.1, d) else r)
  | _, _, .nil => .nil
  | _, _, .cons (k := j) h0 h1 h2 => by
    rw [List.map_cons, List.map_cons]
    by_cases e : j = k
    · subst e
      rw [if_pos rfl, if_pos rfl]
      exact .cons h0 hr (h2.map j hr)
    · rw [if_neg e, if_neg e]
      exact .cons h0 h1 (h2.map k hr)
theorem RepT.snoc {k : List Int} {b : Addr} {v : V} {d : D} (hb : ShT K O H b (k.map V.int)) (hr : Rep K T O H v d) : ∀ {rows : List TRow} {kds : List (List Int × D)}, RepT K T O H rows kds → RepT K T O H (rows ++ [(k, b, v)]) (kds ++ [(k, d)])
  | _, _, .nil => .cons hb hr .nil
  | _, _, .cons h0 h1 h2 => .cons h0 h1 (h2.snoc hb hr)
theorem RepT.put {k : List Int} {b : Addr} {v : V} {d : D} {rows : List TRow} {kds : List (List Int × D)} (h : RepT K T O H rows kds) (hb : ShT K O H b (k.map V.int)) (hr : Rep K T O H v d) : RepT K T O H (putR rows k b v) (putT kds k d) := by
  unfold putR putT
  have e : (lookR rows k).isSome = (lookT kds k).isSome := by
    rcases h.look k with ⟨z1, z2⟩ | ⟨_, _, z1, z2, _⟩ <;> rw [z1, z2] <;> rfl
  rw [e]
  split
  · exact h.map k hr
  · exact h.snoc hb hr
theorem RepT.merge : ∀ {more : List TRow} {md : List (List Int × D)} {rows : List TRow} {kds : List (List Int × D)}, RepT K T O H more md → RepT K T O H rows kds → RepT K T O H (mergeR rows more) (md.foldl (fun acc r => putT acc r.1 r.2) kds)
  | _, _, _, _, .nil, h => h
  | _, _, _, _, .cons h0 h1 h2, h => h2.merge (h.put h0 h1)
theorem RT.dt {v : V} {kds : List (List Int × D)} (h : RT K T O H v (.dt kds)) : ∃ a rows, v = .ref a ∧ Rd H a (TD a rows) ∧ RepT K T O H rows kds := by
  rcases h with h | ⟨a, rfl, h⟩
  · cases h with
    | dt h0 h1 h2 => exact ⟨_, _, rfl, h1, h2⟩
  · obtain ⟨kvs, h1, h2⟩ := h
    exact ⟨a, kvs, rfl, .inl h1, h2⟩
theorem dInts_of : ∀ {ds : List D} {k : List Int}, EV.dInts ds = some k → ds = k.map D.int
  | [], k, h => by cases h; rfl
  | d :: ds, k, h => by
    cases d with
    | int i =>
      have h' : (EV.dInts ds).map (i :: ·) = some k := h
      obtain ⟨k', e, rfl⟩ := Option.map_eq_some_iff.mp h'
      rw [dInts_of e]
      rfl
    | _ => cases h
theorem Reps.intsV : ∀ {vs : List V} {k : List Int}, Reps K T O H vs (k.map D.int) → vs = k.map V.int
  | _, [], .nil => rfl
  | _, i :: k, .cons h t => by
    cases h
    rw [Reps.intsV t]
    rfl
theorem RT.key {v : V} {d : D} {k : List Int} (h : RT K T O H v d) (e : keyI d = some k) : ∃ b, v = .ref b ∧ ShT K O H b (k.map V.int) := by
  cases d with
  | tup ds =>
    have hd := dInts_of (show EV.dInts ds = some k from e)
    obtain ⟨b, vs, rfl, h1, h2⟩ := h.tup
    rw [hd] at h2
    rw [h2.intsV] at h1
    exact ⟨b, rfl, h1⟩
  | _ => cases e
end
/-! d[k] -/
def rIxT (K : PySem.W.Frag) : R2 := fun x y H Q => ∃ a b rows k v, x = .ref a ∧ y = .ref b ∧ TAt K H a rows ∧ SqT K H b (k.map V.int) ∧ lookR rows k = some v ∧ Q v H
theorem ix_dictT {X : Cx} (hu : X.A.units + 1 < cLine) : IxR X (rIxT X.K) := by
  intro value slice pins s σ H x y v u Q I rx ry h hs
  obtain ⟨a, b, rows, k, z, rfl, rfl, ta, eb, l, q⟩ := h
  obtain rfl : v = Value.ref a := rx
  obtain rfl : u = Value.ref b := ry
  unfold subscriptTail
  refine wpAny_bind ?_
  have ty := (EVT.tat_type I ta.1).1
  rw [getitemInPython_of_ne ty.not_modules]
  refine wpAny_bind (wpAny_specialOf ty PySem.F.slot_dict_getitem.lookup ?_)
  have fin : wpAny (model X.prog X.w) X.A (subscripted slice false (.ref a) (.ref b)) (fun r s₃ => wpAny (model X.prog X.w) X.A (letTemporaryGo value (.ref a) r >>= fun _ => pure r) (EP X pins σ Q) X.xe s₃) X.xe s := by
    rw [hs]
    exact wpAny_operating (EVT.t_getItem hu I ta.1 ta.2 eb l fun w' s3 I3 rw' => wpAny_bind (wpAny_letTemporaryGo (wpAny_pure ⟨z, H, I3, rw', q⟩)))
  first
    | exact wpAny_pure (wpAny_bind fin)
    | exact wpAny_bind (wpAny_pure (wpAny_bind fin))
    | exact wpAny_bind fin
def dAtT : D → D → Option D
  | .dt kds, k => (keyI k).bind (lookT kds)
  | _, _ => none
theorem ix_T {X : Cx} (hu : X.A.units + 1 < cLine) : IxD X dAtT := by
  refine ⟨_, ix_dictT hu, fun T O H v1 v2 d1 d2 d Q oh h1 h2 e w => ?_⟩
  unfold dAtT at e
  split at e
  · obtain ⟨k, ek, e2⟩ := Option.bind_eq_some_iff.mp e
    obtain ⟨a, rows, rfl, h3, h4⟩ := h1.dt
    obtain ⟨b, rfl, hb⟩ := h2.key ek
    rcases h4.look k with ⟨z, _⟩ | ⟨v, d', z1, z2, z3⟩
    · rw [z] at e2; cases e2
    · rw [z1] at e2
      cases e2
      exact ⟨a, b, rows, k, v, rfl, rfl, ⟨h3, h4.keys⟩, hb.sq, z2, w v H (Ex.refl H) z3⟩
  · cases e
section
variable {X : Cx} {S : ES} {W : WX} {pos : Pos} {e a b : Expr} {fe fa fb : SE}
/-! d[k] = v -/
def setT (k d : D) : D → Option D
  | .dt kds => (keyI k).bind fun j => if kds.length < LIM then some (.dt (putT kds j d)) else none
  | _ => none
theorem setT_some {k d l l' : D} (h : setT k d l = some l') : ∃ kds j, l = .dt kds ∧ keyI k = some j ∧ kds.length < LIM ∧ l' = .dt (putT kds j d) := by
  unfold setT at h
  split at h
  · obtain ⟨j, hj, h2⟩ := Option.bind_eq_some_iff.mp h
    split at h2
    · cases h2
      exact ⟨_, j, rfl, hj, by assumption, rfl⟩
    · cases h2
  · cases h
def sStT (f o i : SE) : SS := fun ρ => f ρ >>= fun r => ofOpt (valOf r.1) >>= fun d => o r.2 >>= fun r1 => ofOpt (plcOf r1.1) >>= fun s => i r1.2 >>= fun r2 => ofOpt (valOf r2.1) >>= fun k => ofOpt (gt r2.2 s) >>= fun l => ofOpt (setT k d l) >>= fun l' => .ok (.nx, st r2.2 s (some l'))
theorem es_stT {o i : Expr} {fo fi : SE} {spos : Pos} (hu : X.A.units + 1 < cLine) (he : EvE X S W e fe) (ho : EvE X S W o fo) (hi : EvE X S W i fi)
    (hs : swapsWith e (some (.Subscript o i spos)) pos.line X.env = pure false := by rfl) :
    EvS X S W (.Assign [.Subscript o i spos] e pos) (sStT fe fo fi) := by
  obtain ⟨te, pe, qe⟩ := he
  obtain ⟨to, po, qo⟩ := ho
  obtain ⟨ti, pi, qi⟩ := hi
  refine ⟨_, EVT.ps_tput hu po pi pe hs, fun C σ H ρ E Er w => ?_⟩
  refine qe C σ H ρ _ Er ((Wp.bind w).mono (fun _ _ h => h) fun r0 _ w0 v0 H0 E0 A0 R0 => ?_)
  obtain ⟨d, e0, w1⟩ := opt_wp w0
  refine qo C σ H0 r0.2 _ E0 ((Wp.bind w1).mono (fun _ _ h => h) fun r1 _ w2 v1 H1 E1 A1 R1 => ?_)
  obtain ⟨s, e1, w3⟩ := opt_wp w2
  rw [plcOf_eq e1] at R1
  obtain ⟨hs0, hs1⟩ := R1
  refine qi C σ H1 r1.2 _ E1 ((Wp.bind w3).mono (fun _ _ h => h) fun r2 _ w4 v2 H2 E2 A2 R2 => ?_)
  obtain ⟨k, e2, w5⟩ := opt_wp w4
  obtain ⟨l, e3, w6⟩ := opt_wp w5
  obtain ⟨l', e4, w7⟩ := opt_wp w6
  have rp : Rep X.K S.T (C.O S σ r2.2) H2 v0 d := (R0.val e0).adv (A1.trans A2).ra
  obtain ⟨kds, j, rfl, hj, hl, rfl⟩ := setT_some e4
  obtain ⟨ad, e8, ow2, _⟩ := E2.own s _ hs0 e3
  rw [hs1] at e8
  obtain rfl : v1 = .ref ad := by simpa using e8
  obtain ⟨rows, g1, g2⟩ := ow2
  obtain ⟨kb, rfl, hkb⟩ := (show RT X.K S.T (C.O S σ r2.2) H2 v2 k from .inl (R2.val e2)).key hj
  refine ⟨ad, kb, rows, j, rfl, rfl, g1, g2.keys, hkb.sq, by rw [g2.length, lim_eq]; exact hl, ?_⟩
  have oa : C.O S σ r2.2 ad := .inr ⟨s, hs0, some_ne e3, hs1⟩
  have ra : RA (C.O S σ r2.2) H2 (C.O S σ r2.2) (upd H2 ad (TD ad (putR rows j kb v0))) := ⟨fun b u nb hb => by
    have ne : b ≠ ad := fun z => nb (z ▸ oa)
    rcases hb with hb | ⟨o, hb⟩
    · exact .inl (by rw [upd_ne ne]; exact hb)
    · exact .inr ⟨o, by rw [upd_ne ne]; exact hb⟩, fun b z => .inl z, fun b hb => by
    by_cases z : b = ad
    · subst z; rw [upd_same]; exact some_ne rfl
    · rw [upd_ne z]; exact hb⟩
  have E3 := E2.mut (u := TD ad (putR rows j kb v0)) (d := .dt (putT kds j d)) hs0 e3 hs1 trivial ⟨putR rows j kb v0, upd_same, (RepT.adv ra _ _ g2).put (hkb.adv ra) (rp.adv ra)⟩
  exact w7 _ _ E3 (((A0.trans A1).trans A2).trans (adv_mut hs0 e3 hs1))
/-! d.get(k, x) -/
def isDt : D → Option Unit
  | .dt _ => some ()
  | _ => none
def getT (k x : D) : D → Option D
  | .dt kds => (keyI k).map fun j => (lookT kds j).getD x
  | _ => none
def eGet2T (o i f : SE) : SE := fun ρ => o ρ >>= fun r => deref r.2 r.1 >>= fun d0 => ofOpt (isDt d0) >>= fun _ => i r.2 >>= fun r1 => ofOpt (valOf r1.1) >>= fun k => f r1.2 >>= fun r2 => ofOpt (valOf r2.1) >>= fun x => deref r2.2 r.1 >>= fun d => ofOpt (getT k x d) >>= fun y => .ok (.val y, r2.2)
theorem isD_ofT {K : PySem.W.Frag} {T : Nat → Option Addr} {O : Addr → Prop} {H : Hp} {v : V} {d : D} (h : RT K T O H v d) (e : isDt d = some ()) : ∃ a, v = .ref a ∧ ∃ rows, Rd H a (TD a rows) := by
  cases d <;> cases e
  obtain ⟨a, kvs, rfl, h1, _⟩ := h.dt
  exact ⟨a, rfl, kvs, h1⟩
theorem ev_get2T {o i f : Expr} {fo fi ff : SE} {apos cpos : Pos} (hu : X.A.units + 1 < cLine) (ho : EvE X S W o fo) (hi : EvE X S W i fi) (hf : EvE X S W f ff) (m : M2 X o "get" apos i f cpos) :
    EvE X S W (.Call (.Attribute o "get" apos) [i, f] [] cpos) (eGet2T fo fi ff) := by
  obtain ⟨to, po, qo⟩ := ho
  obtain ⟨ti, pi, qi⟩ := hi
  obtain ⟨tf, pf, qf⟩ := hf
  refine ⟨_, EVT.pe_tget2 hu po pi pf m, fun C σ H ρ Q E w => ?_⟩
  refine qo C σ H ρ _ E ((Wp.bind w).mono (fun _ _ h => h) fun r _ w1 v H1 E1 A1 R1 => ?_)
  obtain ⟨d0, e0, w2⟩ := deref_wp w1
  obtain ⟨_, e1, w3⟩ := opt_wp w2
  obtain ⟨a, rfl, hd⟩ := isD_ofT (R1.rt E1 e0) e1
  refine ⟨a, rfl, hd, ?_⟩
  refine qi C σ H1 r.2 _ E1 ((Wp.bind w3).mono (fun _ _ h => h) fun r1 _ w4 v1 H2 E2 A2 R2 => ?_)
  obtain ⟨k, e2, w5⟩ := opt_wp w4
  refine qf C σ H2 r1.2 _ E2 ((Wp.bind w5).mono (fun _ _ h => h) fun r2 _ w6 v2 H3 E3 A3 R3 => ?_)
  obtain ⟨x, e3, w7⟩ := opt_wp w6
  obtain ⟨d, e4, w8⟩ := deref_wp w7
  obtain ⟨y, e5, w9⟩ := opt_wp w8
  have Rd3 := (R1.adv (A2.trans A3)).rt E3 e4
  have Rk := (R2.adv A3).val e2
  have Rx := R3.val e3
  have A : Adv (C.mo S σ ρ) H (C.mo S σ r2.2) H3 := (A1.trans A2).trans A3
  cases d with
  | dt kds =>
    have e5' : (keyI k).map (fun j => (lookT kds j).getD x) = some y := e5
    obtain ⟨j, hj, rfl⟩ := Option.map_eq_some_iff.mp e5'
    obtain ⟨a', rows, ea, h1, h2⟩ := Rd3.dt
    cases ea
    obtain ⟨kb, rfl, hkb⟩ := (show RT X.K S.T (C.O S σ r2.2) H3 v1 k from .inl Rk).key hj
    refine ⟨kb, rows, j, rfl, ⟨h1, h2.keys⟩, hkb.sq, ?_⟩
    rcases h2.look j with ⟨z1, z2⟩ | ⟨v', d', z1, z2, z3⟩
    · rw [z1] at w9
      rw [z2]
      exact w9 _ _ E3 A Rx
    · rw [z1] at w9
      rw [z2]
      exact w9 _ _ E3 A z3
  | _ => cases e5
/-! {} -/
def fDt0 : Env → Res (D × Env) := fun ρ => .ok (.dt [], ρ)
theorem ef_dt0 : EvF X S W (.Dict [] [] pos) fDt0 := by
  refine ⟨_, EVT.pe_tnew, fun C σ H ρ Q E w p hp => ?_⟩
  have x : Ex H (upd H p (TD p [])) := Ex.new hp
  exact w p _ hp (OH.fresh E.omut hp) (E.alloc hp trivial) x.adv ⟨[], upd_same, .nil⟩
/-! {(..): v} -/
def tdPs : List (D × D) → Option (List (List Int × D))
  | [] => some []
  | p :: r => (keyI p.1).bind fun k => (tdPs r).map ((k, p.2) :: ·)
def mergeT (kds more : List (List Int × D)) : List (List Int × D) := more.foldl (fun acc r => putT acc r.1 r.2) kds
theorem RepP.tds {K : PySem.W.Frag} {T : Nat → Option Addr} {O : Addr → Prop} {H : Hp} : ∀ {ps : List (V × V)} {qs : List (D × D)} {kds : List (List Int × D)}, RepP K T O H ps qs → tdPs qs = some kds → ∃ rows : List TRow, ps = rows.map (fun r => (V.ref r.2.1, r.2.2)) ∧ rows.length = qs.length ∧ RepT K T O H rows kds
  | [], [], _, _, e => by cases e; exact ⟨[], rfl, rfl, .nil⟩
  | p :: ps, q :: qs, kds, h, e => by
    have e' : ((keyI q.1).bind fun k => (tdPs qs).map ((k, q.2) :: ·)) = some kds := e
    obtain ⟨k, ek, e2⟩ := Option.bind_eq_some_iff.mp e'
    obtain ⟨ks, e3, rfl⟩ := Option.map_eq_some_iff.mp e2
    obtain ⟨rows, h1, h2, h3⟩ := h.2.2.tds e3
    obtain ⟨b, hb, hb2⟩ := (show RT K T O H p.1 q.1 from .inl h.1).key ek
    refine ⟨(k, b, p.2) :: rows, ?_, congrArg (· + 1) h2, .cons hb2 h.2.1 h3⟩
    rw [List.map_cons, ← h1]
    obtain ⟨p1, p2⟩ := p
    dsimp only at hb ⊢
    rw [hb]
  | [], _ :: _, _, h, _ => h.elim
  | _ :: _, [], _, h, _ => h.elim
def fDispT (f : Env → Res (List (D × D) × Env)) : Env → Res (D × Env) := fun ρ => f ρ >>= fun r => ofOpt (tdPs r.1) >>= fun kds => .ok (.dt (mergeT [] kds), r.2)
theorem ef_dispT {ks : List (Option Expr)} {vs : List Expr} {f} (hu : X.A.units + 1 < cLine) (h : EvPP X S W pos ks vs f) (hall : ks.all (·.isSome) = true) (hl : ks.length = vs.length) (h0 : ks ≠ []) (h15 : ks.length ≤ 15) (hf : ∀ ρ r, f ρ = .ok r → r.1.length ≤ 15) : EvF X S W (.Dict ks vs pos) (fDispT f) := by
  obtain ⟨tr, pr, qr⟩ := h
  refine ⟨_, EVT.pe_tdisp hu pr hall hl h0 h15, fun C σ H ρ Q E w p hp => ?_⟩
  have x : Ex H (upd H p (TD p [])) := Ex.new hp
  have E0 := E.alloc (u := TD p []) hp trivial
  have nO : ¬ C.O S σ ρ p := OH.fresh E.omut hp
  have nM : ¬ EC.M S σ ρ p := fun z => nO (.inr z)
  have hC0 : C.H0 p = none := E.h0 hp
  refine qr (C.pl [p]) σ (upd H p (TD p [])) ρ _ E0 ((Wp.bind w).mono (fun c pl hx d σ' H' ρ' E' pay => ?_) fun r er w1 ps H1 E1 A1 R1 => ?_)
  · refine hx d σ' H' ρ' E'.unplus fun f hf => ?_
    obtain ⟨dx, v, e1, e2, rp⟩ := pay f hf
    exact ⟨dx, v, e1, e2, rp.adv ra_unplus⟩
  obtain ⟨kds, ek, w2⟩ := opt_wp w1
  obtain ⟨rows, eps, hlk, rk⟩ := R1.tds ek
  have hp1 : H1 p = some (TD p []) := A1.st p _ nM upd_same
  have nM1 : ¬ EC.M S σ r.2 p := fun z => (A1.mn p z).elim nM fun q => by rw [upd_same] at q; cases q
  have A2 : Adv (C.mo S σ ρ) H ((C.pl [p]).mo S σ r.2) H1 := (adv_plus hp x).trans A1
  refine ⟨hp1, rows, eps, rk.keys, by rw [hlk]; exact hf ρ r er, ?_⟩
  have E2 := E1.mutNew (u := TD p (mergeR [] rows)) hC0 nM1 hp1 trivial trivial
  have ra : RA ((C.pl [p]).O S σ r.2) H1 ((C.pl [p]).O S σ r.2) (upd H1 p (TD p (mergeR [] rows))) := by
    have op : (C.pl [p]).O S σ r.2 p := .inl (.inr (List.mem_singleton.mpr rfl))
    refine ⟨fun b v n h => ?_, fun b z => .inl z, fun b h => ?_⟩
    · have ne : b ≠ p := fun e => n (e ▸ op)
      rcases h with h | ⟨o, h⟩
      · exact .inl (by rw [upd_ne ne]; exact h)
      · exact .inr ⟨o, by rw [upd_ne ne]; exact h⟩
    · by_cases e : b = p
      · subst e; rw [upd_same]; exact some_ne rfl
      · rw [upd_ne e]; exact h
  have A3 : Adv (C.mo S σ ρ) H (C.mo S σ r.2) (upd H1 p (TD p (mergeR [] rows))) := (A2.mutNew hp (some_ne hp1)).trans adv_unplus
  have no2 : ¬ C.O S σ r.2 p := fun z => by
    rcases z with z | z
    · exact nO (.inl z)
    · exact nM1 z
  exact w2 p _ hp no2 E2 A3 ⟨mergeR [] rows, upd_same, (RepT.merge (RepT.adv ra _ _ rk) .nil)⟩
/-! d == {} -/
def dEqT0 (neg : Bool) : D → D → Option D
  | .dt a, .dt [] => some (.bl (a.isEmpty != neg))
  | _, _ => none
theorem RepT.isEmpty {K : PySem.W.Frag} {T : Nat → Option Addr} {O : Addr → Prop} {H : Hp} {rows : List TRow} {kds : List (List Int × D)} (h : RepT K T O H rows kds) : rows.isEmpty = kds.isEmpty := by cases h <;> rfl
theorem od_T0 {neg : Bool} {f : Value → Value → Sem Value} (h : OpR X f (EVT.rEqT0 neg)) : OpD X f (dEqT0 neg) := by
  refine ⟨_, h, fun T O H v1 v2 d1 d2 d Q oh h1 h2 e w => ?_⟩
  unfold dEqT0 at e
  split at e
  · cases e
    obtain ⟨a, rows, rfl, r1, k1⟩ := h1.dt
    obtain ⟨b, rows2, rfl, r2, k2⟩ := h2.dt
    cases k2
    refine ⟨a, b, rows, rfl, rfl, r1, r2, ?_⟩
    rw [k1.isEmpty]
    exact w _ H (Ex.refl H) (.bl _)
  · cases e
theorem od_eqT (hu : X.A.units + 64 < cLine) : OpD X (compareOp .Eq) (dEqT0 false) := od_T0 (EVT.op_eqT0 hu)
theorem od_neT (hu : X.A.units + 64 < cLine) : OpD X (compareOp .NotEq) (dEqT0 true) := od_T0 (EVT.op_neT0 hu)
/-! min(d.values()) -/
def minVT : D → Option D
  | .dt kds => match kds.map (·.2) with
    | x :: xs => if alkAll (x :: xs) = true then some (bestD D.ltb x xs) else none
    | [] => none
  | _ => none
theorem RepT.vals {K : PySem.W.Frag} {T : Nat → Option Addr} {O : Addr → Prop} {H : Hp} : ∀ {rows : List TRow} {kds : List (List Int × D)}, RepT K T O H rows kds → Reps K T O H (rows.map (·.2.2)) (kds.map (·.2))
  | _, _, .nil => .nil
  | _, _, .cons _ h1 h2 => .cons h1 h2.vals
theorem ev_minVT {o : Expr} {p apos mpos : Pos} {f : SE} (hc : X.calm = true) (hu : X.A.units + 65 < cLine) (hg : Gl X "min") (hm : X.mg "min" = none) (hd : EvE X S W o f) (hbase : attributeBase o "values" X.env (eval o X.env) = eval o X.env := by rfl) (hline : (apos.endLine == mpos.line) = true := by rfl)
    (hse : starEach [Expr.Call (.Attribute o "values" apos) [] [] mpos] X.env = [(false, eval (Expr.Call (.Attribute o "values" apos) [] [] mpos) X.env)] := by rfl) :
    EvE X S W (.Call (.Name "min" p) [.Call (.Attribute o "values" apos) [] [] mpos] [] pos) (eUn minVT f) := by
  obtain ⟨t, pt, q⟩ := hd
  refine ⟨_, EVT.pe_minVT hc hu hg hm pt hbase hline hse, fun C σ H ρ Q E w => ?_⟩
  refine q C σ H ρ _ E ((Wp.bind w).mono (fun _ _ h => h) fun r1 _ w1 v H1 E1 A1 R1 => ?_)
  obtain ⟨d, e1, w2⟩ := deref_wp w1
  obtain ⟨d', e2, w3⟩ := opt_wp w2
  have rt := R1.rt E1 e1
  unfold minVT at e2
  split at e2
  · rename_i kds
    split at e2
    · rename_i x xs hx
      split at e2
      · rename_i ha
        cases e2
        obtain ⟨a, rows, rfl, r1, k1⟩ := rt.dt
        have rv := k1.vals
        rw [hx] at rv
        have hl := rv.length
        rw [List.length_cons, List.length_map] at hl
        obtain ⟨a1, a2⟩ := alkAll_py ha
        have ba := best_at (p := fun a b => PySem.W.dataLt a b) (f := D.ltb) (alkAll_of ha).1 fun a b ha hb => py_lt ha hb
        refine ⟨a, rows, pyL (x :: xs), rfl, r1, (Reps.dp _ _ rv (alkAll_of ha).1).1, a1, a2, by omega, fun v hv => ?_⟩
        rw [hl] at hv
        exact w3 v H1 E1 A1 (rv.get' hv ba)
      · cases e2
    · cases e2
  · cases e2
end
end EV

namespace EV
open PySem PySem.Spec L2 SX
open PyProof.Rows hiding St
open EVT (TRow TD TAt KeysAt lookR putR mergeR)
section
variable {X : Cx} {S : ES} {W : WX} {pos : Pos}
/-- the reading of a comprehension, from its parts' -/
theorem lc_canA {fi : Env → Res (List D × Env)} {ts : List Nat} {g : D → Env → Res Env} {cnd : Env → Res (Bool × Env)} {elt : SE} {vs : List Nat} {wi : TI} {tt : TT} (ho : ∀ v, v ∈ vs → v ∉ S.ow) (hf : ∀ v, v ∈ vs → v ∉ S.fx) (hts : ∀ i, i ∈ ts → i ∈ vs)
    (qt : ∀ (C : EC) (σ : St) (H : Hp) (ρ : Env) (Q : Bool → Hp → Prop), ER X.K S C σ H ρ → Wp (cnd ρ) (XOk X.K S WF C) (fun r => ∀ H', ER X.K S C σ H' r.2 → Adv (C.mo S σ ρ) H (C.mo S σ r.2) H' → Q r.1 H') → tt σ H Q)
    (C : EC) (σ : St) (H : Hp) (ρ : Env) (Q : VK) (E : ER X.K S C σ H ρ)
    (qi : ∀ (R : It → Hp → Prop), Wp (fi ρ) (XOk X.K S W C) (fun r => ∀ J H', ER X.K S C σ H' r.2 → Adv (C.mo S σ ρ) H (C.mo S σ r.2) H' → ItA X.K S J r.1 (C.mo S σ r.2) H' → R J H') → wi σ H R)
    (w : Wp (fLc vs fi g cnd elt ρ) (XOk X.K S W C) (fun r => ∀ p H', H p = none → ¬ C.O S σ r.2 p → ER X.K S (C.pl [p]) σ H' r.2 → Adv (C.mo S σ ρ) H (C.mo S σ r.2) H' → OwnAt X.K S.T ((C.pl [p]).O S σ r.2) H' p r.1 → Q (.ref p) H')) :
    tLc wi (canG X.K S ts g) tt (canE X.K S WF elt) vs σ H Q := by
  refine qi _ ((Wp.bind w).mono (fun _ _ h => h) fun r1 _ w1 J H1 E1 A1 I1 => ?_)
  obtain ⟨xs, ρ1⟩ := r1
  obtain ⟨u, eu, w2⟩ := opt_wp w1
  have hz : xs.length ≤ sizeLine := lim_ok eu
  intro L hL
  -- what is true ahead of each turn
  let Pv : Nat → Env → List V → List D → Hp → Prop := fun i ρ' acc ds H' => ER X.K S (C.pl [L]) (wipe σ vs) H' (wipeE ρ' vs) ∧ Adv (C.mo S σ ρ1) H1 ((C.pl [L]).mo S (wipe σ vs) (wipeE ρ' vs)) H' ∧
    H' L = some (.lst acc) ∧ Reps X.K S.T ((C.pl [L]).O S (wipe σ vs) (wipeE ρ' vs)) H' acc ds ∧ acc.length ≤ i ∧ ¬ EC.M S (wipe σ vs) (wipeE ρ' vs) L ∧
    Wp (lcL vs g cnd elt (xs.drop i) ρ') (XOk X.K S W C) (fun r => ∀ p H2, H p = none → ¬ C.O S σ (restE ρ1 r.2 vs) p → ER X.K S (C.pl [p]) σ H2 (restE ρ1 r.2 vs) → Adv (C.mo S σ ρ) H (C.mo S σ (restE ρ1 r.2 vs)) H2 → OwnAt X.K S.T ((C.pl [p]).O S σ (restE ρ1 r.2 vs)) H2 p (.lst (ds ++ r.1)) → Q (.ref p) H2)
  have hC0 : C.H0 L = none := E1.h0 hL
  have nO : ¬ C.O S σ ρ1 L := OH.fresh E1.omut hL
  have nM : ¬ EC.M S σ ρ1 L := fun z => nO (.inr z)
  refine ⟨fun i m H' => m = xs.length - i ∧ i ≤ xs.length ∧ ∃ ρ' acc ds, Pv i ρ' acc ds H', ⟨xs.length, rfl, Nat.zero_le _, ρ1, [], [], ?_⟩, ?_⟩
  · have x : Ex H1 (upd H1 L (.lst [])) := Ex.new hL
    refine ⟨(E1.alloc (u := .lst []) hL trivial).wiped ho hf, ?_, upd_same, .nil, Nat.le_refl _, fun z => nM ((M_wipe ho).mp z), ?_⟩
    · rw [mo_wipe ho]
      exact adv_plus hL x
    · refine (Wp.bind w2).mono (fun _ _ h => h) fun r _ h => ?_
      rw [List.nil_append]
      exact h
  rintro i m H' ⟨rfl, hi, ρ', acc, ds, E', A', hacc, rs, hle, nm, w'⟩
  by_cases hlt : i < xs.length
  · refine .inr ⟨I1.go _ H' i A' hlt, fun H2 => ∃ ρ2 acc2 ds2, Pv (i + 1) ρ2 acc2 ds2 H2, fun H2 h => ⟨xs.length - (i + 1), by omega, rfl, hlt, h⟩, fun x H2 y => ?_⟩
    rw [drop_at hlt] at w'
    obtain ⟨ex, rp⟩ := I1.yld (C.pl [L]) S (wipe σ vs) H' (wipeE ρ' vs) i x H2 xs[i] rfl E' A' y (by simp [hlt])
    have w' : Wp (noErr (g xs[i] (wipeE ρ' vs)) >>= fun ρ1 => noErr (cnd ρ1) >>= fun r => bif r.1 then noErr (elt r.2) >>= fun r2 => ofOpt (valOf r2.1) >>= fun x => lcL vs g cnd elt (xs.drop (i + 1)) r2.2 >>= fun r3 => (.ok (x :: r3.1, r3.2) : Res (List D × Env)) else lcL vs g cnd elt (xs.drop (i + 1)) r.2) _ _ := w'
    refine ⟨C.pl [L], wipeE ρ' vs, xs[i], E'.ext ex, rp, (noErr_wp w').mono (fun _ _ h => h) fun ρ3 _ w3 σ3 H3 E3 A3 z3 => ⟨?_, ?_⟩⟩
    · rw [z3 vs hts]
      have idem : ∀ ws : List Nat, (∀ v, v ∈ ws → v ∈ vs) → wipe (wipe σ vs) ws = wipe σ vs := by
        intro ws
        induction ws with
        | nil => intro _; rfl
        | cons k ws ih =>
          intro hk
          show (wipe (wipe σ vs) ws).set k none = wipe σ vs
          rw [ih fun v m => hk v (List.mem_cons_of_mem _ m)]
          have at_k : ∀ us : List Nat, k ∈ us → (wipe σ us).set k none = wipe σ us := by
            intro us
            induction us with
            | nil => intro m; simp at m
            | cons j us ih2 =>
              intro m
              show ((wipe σ us).set j none).set k none = (wipe σ us).set j none
              by_cases e : k = j
              · subst e; rw [List.set_set]
              · rw [List.set_comm _ _ (Ne.symm e), ih2 ((List.mem_cons.mp m).resolve_left e)]
          exact at_k vs (hk k List.mem_cons_self)
      exact idem vs fun _ m => m
    · have hwz : wipe σ3 vs = wipe σ vs := by
        rw [z3 vs hts]
        have idem : ∀ ws : List Nat, (∀ v, v ∈ ws → v ∈ vs) → wipe (wipe σ vs) ws = wipe σ vs := by
          intro ws
          induction ws with
          | nil => intro _; rfl
          | cons k ws ih =>
            intro hk
            show (wipe (wipe σ vs) ws).set k none = wipe σ vs
            rw [ih fun v m => hk v (List.mem_cons_of_mem _ m)]
            have at_k : ∀ us : List Nat, k ∈ us → (wipe σ us).set k none = wipe σ us := by
              intro us
              induction us with
              | nil => intro m; simp at m
              | cons j us ih2 =>
                intro m
                show ((wipe σ us).set j none).set k none = (wipe σ us).set j none
                by_cases e : k = j
                · subst e; rw [List.set_set]
                · rw [List.set_comm _ _ (Ne.symm e), ih2 ((List.mem_cons.mp m).resolve_left e)]
            exact at_k vs (hk k List.mem_cons_self)
        exact idem vs fun _ m => m
      have A3' := (A'.trans ex.adv).trans A3
      have hL2 : H2 L = some (.lst acc) := ex L _ hacc
      have hL3 : H3 L = some (.lst acc) := A3.st L _ nm hL2
      have nm3 : ¬ EC.M S σ3 ρ3 L := fun z => (A3.mn L z).elim nm fun e => by rw [hL2] at e; cases e
      have rs3 := (rs.adv ex.ra).adv A3.ra
      -- the next turn, from any later moment of this one
      have next : ∀ (ρ4 : Env) (H4 : Hp) (acc4 : List V) (ds4 : List D), ER X.K S (C.pl [L]) σ3 H4 ρ4 → Adv (C.mo S σ ρ1) H1 ((C.pl [L]).mo S σ3 ρ4) H4 → H4 L = some (.lst acc4) → Reps X.K S.T ((C.pl [L]).O S σ3 ρ4) H4 acc4 ds4 → acc4.length ≤ i + 1 → ¬ EC.M S σ3 ρ4 L →
          Wp (lcL vs g cnd elt (xs.drop (i + 1)) ρ4) (XOk X.K S W C) (fun r => ∀ p H2, H p = none → ¬ C.O S σ (restE ρ1 r.2 vs) p → ER X.K S (C.pl [p]) σ H2 (restE ρ1 r.2 vs) → Adv (C.mo S σ ρ) H (C.mo S σ (restE ρ1 r.2 vs)) H2 → OwnAt X.K S.T ((C.pl [p]).O S σ (restE ρ1 r.2 vs)) H2 p (.lst (ds4 ++ r.1)) → Q (.ref p) H2) →
          ∃ ρ2 acc2 ds2, Pv (i + 1) ρ2 acc2 ds2 H4 := fun ρ4 H4 acc4 ds4 E4 A4 h4 r4 l4 n4 w4 => by
        refine ⟨ρ4, acc4, ds4, hwz ▸ E4.wiped ho hf, ?_, h4, ?_, l4, ?_, w4⟩
        · rw [← hwz, mo_wipe ho]; exact A4
        · rw [← hwz, O_wipe ho]; exact r4
        · rw [← hwz]; exact fun z => n4 ((M_wipe ho).mp z)
      refine qt (C.pl [L]) σ3 H3 ρ3 _ E3 ((noErr_wp w3).mono (fun _ _ h => h) fun r4 _ w4 H4 E4 A4 => ?_)
      obtain ⟨b, ρ4⟩ := r4
      have hL4 : H4 L = some (.lst acc) := A4.st L _ nm3 hL3
      have nm4 : ¬ EC.M S σ3 ρ4 L := fun z => (A4.mn L z).elim nm3 fun e => by rw [hL3] at e; cases e
      cases b with
      | false => exact next ρ4 H4 acc ds E4 (A3'.trans A4) hL4 (rs3.adv A4.ra) (by omega) nm4 w4
      | true =>
        refine ⟨C.pl [L], ρ4, E4, (noErr_wp w4).mono (fun _ _ h => h) fun r5 _ w5 v5 H5 E5 A5 R5 => ?_⟩
        obtain ⟨x5, e5, w6⟩ := opt_wp w5
        have hL5 : H5 L = some (.lst acc) := A5.st L _ nm4 hL4
        have nm5 : ¬ EC.M S σ3 r5.2 L := fun z => (A5.mn L z).elim nm4 fun e => by rw [hL4] at e; cases e
        have rs5 := (rs3.adv A4.ra).adv A5.ra
        refine ⟨acc, hL5, Nat.lt_of_le_of_lt hle (Nat.lt_of_lt_of_le hlt hz), ?_⟩
        have E6 := E5.mutNew (u := .lst (acc ++ [v5])) hC0 nm5 hL5 trivial trivial
        have ra6 : RA ((C.pl [L]).O S σ3 r5.2) H5 ((C.pl [L]).O S σ3 r5.2) (upd H5 L (.lst (acc ++ [v5]))) := by
          have op : (C.pl [L]).O S σ3 r5.2 L := .inl (.inr (List.mem_singleton.mpr rfl))
          refine ⟨fun b v n h => ?_, fun b z => .inl z, fun b h => ?_⟩
          · have ne : b ≠ L := fun e => n (e ▸ op)
            rcases h with h | ⟨o, h⟩
            · exact .inl (by rw [upd_ne ne]; exact h)
            · exact .inr ⟨o, by rw [upd_ne ne]; exact h⟩
          · by_cases e : b = L
            · subst e; rw [upd_same]; exact some_ne rfl
            · rw [upd_ne e]; exact h
        refine next r5.2 _ (acc ++ [v5]) (ds ++ [x5]) E6 (((A3'.trans A4).trans A5).mutNew hL (by rw [hL5]; exact some_ne rfl)) upd_same ((rs5.adv ra6).snoc ((R5.val e5).adv ra6)) (by rw [List.length_append]; simp; omega) nm5 ?_
        refine (Wp.bind w6).mono (fun _ _ h => h) fun r6 _ h => ?_
        rw [List.append_assoc]
        exact h
  · have ei : i = xs.length := by omega
    subst ei
    rw [List.drop_length] at w'
    refine .inl ⟨I1.stop _ H' A', ?_⟩
    have hl : ρ'.length = ρ1.length := by
      have h1 := E'.len
      rw [wipeE_length, wipe_length] at h1
      exact h1.trans E1.len.symm
    have E2 : ER X.K S (C.pl [L]) σ H' (restE ρ1 ρ' vs) := E'.rest E1 A'.ra ho E1.fx
    have emo : (C.pl [L]).mo S σ (restE ρ1 ρ' vs) = (C.pl [L]).mo S (wipe σ vs) (wipeE ρ' vs) := mo_rest hl ho
    have A2 : Adv (C.mo S σ ρ1) H1 (C.mo S σ (restE ρ1 ρ' vs)) H' := by
      rw [← emo] at A'
      exact A'.trans adv_unplus
    have hm : EC.M S σ (restE ρ1 ρ' vs) L → False := fun z => nm ((M_rest hl ho).mp z)
    refine w' L H' (A1.back hL) (fun z => z.elim (fun z => nO (.inl z)) hm) E2 (A1.trans A2) ?_
    rw [List.append_nil]
    refine ⟨acc, hacc, ?_⟩
    rw [show (C.pl [L]).O S σ (restE ρ1 ρ' vs) = (C.pl [L]).O S (wipe σ vs) (wipeE ρ' vs) from congrArg MO.O emo]
    exact rs
/-! ### walks over dicts of either kind -/
def keysT (kds : List (List Int × D)) : List D := kds.map fun r => .tup (r.1.map D.int)
theorem RepT.key {K : PySem.W.Frag} {T : Nat → Option Addr} {O : Addr → Prop} {H : Hp} : ∀ {rows : List TRow} {kds : List (List Int × D)} {i : Nat} {r : TRow} {d : D}, RepT K T O H rows kds → rows[i]? = some r → (keysT kds)[i]? = some d → Rep K T O H (.ref r.2.1) d
  | _, _, _, _, _, .nil, e, _ => by simp at e
  | _, _, 0, _, _, .cons (k := k) h0 _ _, e, e2 => by
    cases e
    cases e2
    exact .tup h0 (Reps.ofInts k)
  | _, _, i + 1, _, _, .cons _ _ h, e, e2 => RepT.key (i := i) h (by simpa using e) (by simpa [keysT] using e2)
theorem ita_keysT {m : MO} {H : Hp} {a : Addr} {od : Obj} {rows : List TRow} {kds : List (List Int × D)} (n : ¬ m.M a) (h : H a = some (.frz od (TD a rows))) (hr : RepT X.K S.T m.O H rows kds) : ItA X.K S (EVT.ItT a od rows) (keysT kds) m H where
  go := fun m1 H1 i A hi => ⟨A.st a _ n h, by rw [hr.length]; simpa [keysT] using hi⟩
  stop := fun m1 H1 A => ⟨A.st a _ n h, by rw [hr.length, keysT, List.length_map]; exact Nat.le_refl _⟩
  yld := fun C S' σ H1 ρ i x H2 d hT E A y e => by
    obtain ⟨rfl, r, e1, rfl⟩ := y
    rw [hT]
    exact ⟨Ex.refl _, (RepT.adv A.ra _ _ hr).key e1 e⟩
/-- the keys of what a name holds -/
def iKy (i : Nat) : Env → Res (List D × Env) := fun ρ => match gt ρ i with
  | some (.dk kds) => bif okKs kds then .ok (kds.map fun kv => kdD kv.1, ρ) else .stuck
  | some (.dt kds) => .ok (keysT kds, ρ)
  | _ => .stuck
def iKyT (i : Nat) : TI := fun σ H R => iKeys (tVar i) σ H R ∨ EVT.iTKeys (tVar i) σ H R
theorem pi_ky {tg : Expr} {i : Nat} {x : Str} {p : Pos} (hN : X.N[i]? = some x) (hv : Vis X.env.scope x) (hd : (x == ("__debug__" : Str)) = false := by decide) (hcd : (x == ("__classdict__" : Str)) = false := by decide) : PI X tg (.Name x p) (iKyT i) :=
  pi_or (pi_keys (pe_var hN hv hd hcd)) (EVT.pi_tkeys (pe_var hN hv hd hcd))
/-- what the name holds can be locked, or is locked; then it is walked -/
theorem ky_lock {i : Nat} {C : EC} {σ : St} {H : Hp} {ρ : Env} (ho : i ∉ S.ow) (E : ER X.K S C σ H ρ) {r : List D × Env} (hr : iKy i ρ = .ok r) :
    r.2 = ρ ∧ ∃ a, ¬ C.O S σ ρ a ∧ ((∃ u, H a = some u ∧ Mut (some u) ∧ ∀ od, ∃ J, ItA X.K S J r.1 ((C.lock a od u).mo S σ ρ) (upd H a (.frz od u)) ∧ ∀ R : It → Hp → Prop, R J (upd H a (.frz od u)) → iKyT i σ (upd H a (.frz od u)) R) ∨
      ∃ J, ItA X.K S J r.1 (C.mo S σ ρ) H ∧ ∀ R : It → Hp → Prop, R J H → iKyT i σ H R) := by
  have raL : ∀ (a : Addr) (od : Obj) (u : HO), H a = some u → (∀ o w, u ≠ .frz o w) → RA (C.O S σ ρ) H ((C.lock a od u).O S σ ρ) (upd H a (.frz od u)) := fun a od u hrd nf => by
    refine ⟨fun b w n h => ?_, fun b z => .inl z, fun b h => ?_⟩
    · by_cases e : b = a
      · subst e
        rcases h with h | ⟨o, h⟩
        · rw [hrd] at h; cases h; exact .inr ⟨od, upd_same⟩
        · rw [hrd] at h; cases h; exact absurd rfl (nf _ _)
      · rcases h with h | ⟨o, h⟩
        · exact .inl (by rw [upd_ne e]; exact h)
        · exact .inr ⟨o, by rw [upd_ne e]; exact h⟩
    · by_cases e : b = a
      · subst e; rw [upd_same]; exact some_ne rfl
      · rw [upd_ne e]; exact h
  unfold iKy at hr
  split at hr
  · rename_i kds hk
    cases ok : okKs kds with
    | false => rw [ok] at hr; cases hr
    | true =>
      rw [ok] at hr
      cases hr
      refine ⟨rfl, ?_⟩
      obtain ⟨v, hv1, rp⟩ := E.sh i _ ho hk
      cases rp with
      | @dk a kvs _ no hrd rk =>
        have nM : ¬ EC.M S σ ρ a := fun z => no (.inr z)
        refine ⟨a, no, ?_⟩
        rcases hrd with hrd | ⟨o, hrd⟩
        · exact .inl ⟨.dK kvs, hrd, trivial, fun od => ⟨_, ita_keys (m := (C.lock a od (.dK kvs)).mo S σ ρ) nM upd_same (RepK.adv (raL a od _ hrd fun _ _ z => nomatch z) _ _ rk) ok, fun R hR => .inl ⟨.ref a, hv1, a, od, rfl, .inl ⟨kvs, upd_same, hR⟩⟩⟩⟩
        · exact .inr ⟨_, ita_keys (m := C.mo S σ ρ) nM hrd rk ok, fun R hR => .inl ⟨.ref a, hv1, a, o, rfl, .inl ⟨kvs, hrd, hR⟩⟩⟩
  · rename_i kds hk
    cases hr
    refine ⟨rfl, ?_⟩
    obtain ⟨v, hv1, rp⟩ := E.sh i _ ho hk
    cases rp with
    | @dt a rows _ no hrd rk =>
      have nM : ¬ EC.M S σ ρ a := fun z => no (.inr z)
      refine ⟨a, no, ?_⟩
      rcases hrd with hrd | ⟨o, hrd⟩
      · exact .inl ⟨TD a rows, hrd, trivial, fun od => ⟨_, ita_keysT (m := (C.lock a od (TD a rows)).mo S σ ρ) nM upd_same (RepT.adv (raL a od _ hrd fun _ _ z => nomatch z) _ _ rk), fun R hR => .inr ⟨.ref a, hv1, a, od, rows, rfl, upd_same, hR⟩⟩⟩
      · exact .inr ⟨_, ita_keysT (m := C.mo S σ ρ) nM hrd rk, fun R hR => .inr ⟨.ref a, hv1, a, o, rows, rfl, hrd, hR⟩⟩
  · cases hr
/-- for x in d -/
def sForT (i : Nat) (g : D → Env → Res Env) (B : SS) : SS := fun ρ => iKy i ρ >>= fun r => forL g (fun ρ => noErr (B ρ)) r.1 r.2
theorem iKy_ok {i : Nat} {ρ : Env} {X' : Nat → D → Prop} {Q : List D × Env → Prop} (w : Wp (iKy i ρ) X' Q) : ∃ r, iKy i ρ = .ok r ∧ Q r := by
  cases h : iKy i ρ with
  | ok r => rw [h] at w; exact ⟨r, rfl, w⟩
  | stuck => rw [h] at w; exact w.elim
  | err c p =>
    unfold iKy at h
    split at h
    · rename_i kds _
      revert h
      cases okKs kds <;> intro h <;> cases h
    · cases h
    · cases h
theorem es_forT {i : Nat} {x : Str} {p : Pos} {tg : Expr} {g : D → Env → Res Env} {ts : List Nat} {body : List Stmt} {B : SS} (hp : PassesOwn (model X.prog X.w) X.A X.env X.xe) (hc : X.calm = true) (ho : i ∉ S.ow) (hN : X.N[i]? = some x) (hv : Vis X.env.scope x) (hg : EvG X S ts tg g) (hb : EvB X S W body B)
    (hs : ∀ z, foldedSetIterable (.Name x p) X.env z = pure z := by intro _; rfl) (hd : (x == ("__debug__" : Str)) = false := by decide) (hcd : (x == ("__classdict__" : Str)) = false := by decide) : EvS X S W (.For tg (.Name x p) body [] pos) (sForT i g B) := by
  obtain ⟨tt, pg, qg⟩ := hg
  obtain ⟨tb, pb, qb⟩ := hb
  have hq : PS X (.For tg (.Name x p) body [] pos) (tFor (iKyT i) tt tb) := ps_for hp hc (pi_ky hN hv hd hcd) pg pb hs
  refine ⟨_, ps_alt (ps_lock hq) hq, fun C σ H ρ D E w => ?_⟩
  have qb' : ∀ (C : EC) (σ : St) (H : Hp) (ρ : Env) (E : Ends), ER X.K S C σ H ρ → Wp (noErr (B ρ)) (XOk X.K S W C) (fun r => ∀ σ' H', ER X.K S C σ' H' r.2 → Adv (C.mo S σ ρ) H (C.mo S σ' r.2) H' → EndOk X.K S C E r.1 r.2 σ' H') → tb E σ H :=
    fun C σ H ρ Ed E w => qb C σ H ρ Ed E (noErr_wp0 w)
  obtain ⟨r, hr, w1⟩ := iKy_ok (Wp.bind w)
  obtain ⟨er, a, no, hl⟩ := ky_lock (X := X) ho E hr
  obtain ⟨xs, ρ0⟩ := r
  obtain rfl : ρ = ρ0 := er.symm
  have nM : ¬ EC.M S σ ρ a := fun z => no (.inr z)
  rcases hl with ⟨u, hrd, mu, hJ⟩ | ⟨J, it, hJ⟩
  · refine .inl ⟨a, u, hrd, mu, fun od => ?_⟩
    obtain ⟨J, it, hJ⟩ := hJ od
    have E1 := E.lock (od := od) hrd mu no
    refine hJ _ ?_
    refine for_core (C := C.lock a od u) qg qb' E1 it ?_
    refine (noErr_for _ _ w1).mono (fun _ _ h => h) fun r _ h σ2 H2 E2 A2 => ?_
    have hl := (E2.lks a od _ List.mem_cons_self).1
    exact end_unlock (H := H) (ρ := ρ) (σ := σ) mu hl (h σ2 _ (E.unlock hrd mu no E2) (adv_unlock hrd nM A2))
  · refine .inr (hJ _ ?_)
    exact for_core qg qb' E it w1
/-! [.. for x in d] -/
theorem ER.unlock' {K : PySem.W.Frag} {S : ES} {C : EC} {σ' : St} {H' : Hp} {ρ' : Env} {a : Addr} {od : Obj} {u : HO} (hfr : ∀ w, C.H0 a = some w → C.bo a ∨ w = u ∨ ∃ o, (a, o, w) ∈ C.lk) (hlk : ∀ o w, (a, o, w) ∉ C.lk) (no0 : ¬ C.O0 a) (E' : ER K S (C.lock a od u) σ' H' ρ') : ER K S C σ' (upd H' a u) ρ' := by
  have hl : H' a = some (.frz od u) := (E'.lks a od u List.mem_cons_self).1
  have ra := ra_unlock (C := C) (S := S) (σ' := σ') (ρ' := ρ') (E'.lks a od u List.mem_cons_self).2 hl
  refine ⟨E'.len, fun i d hi hd => let ⟨v, h1, h2⟩ := E'.sh i d hi hd; ⟨v, h1, h2.advp ra⟩, fun i d hi hd => ?_, E'.dis, E'.fx, fun b w h => ?_, fun b h => ?_, fun b o w h => ?_, fun b h => ?_⟩
  · obtain ⟨b, h1, h2, h3⟩ := E'.own i d hi hd
    have ne : b ≠ a := fun e => h2.nofrz (e ▸ hl)
    exact ⟨b, h1, h2.advp ra (upd_ne ne), h3⟩
  · by_cases e : b = a
    · subst e
      rcases hfr w h with z | z | ⟨o, z⟩
      · exact .inl z
      · subst z; exact .inr (.inl upd_same)
      · exact .inr (.inr ⟨o, z⟩)
    · rcases E'.fr b w h with z | z | ⟨o, z⟩
      · exact .inl z
      · exact .inr (.inl (by rw [upd_ne e]; exact z))
      · rcases List.mem_cons.mp z with q | z
        · cases q; exact (e rfl).elim
        · exact .inr (.inr ⟨o, z⟩)
  · by_cases e : b = a
    · subst e; rw [upd_same]; exact some_ne rfl
    · rw [upd_ne e]; exact E'.dom b h
  · have hb := E'.lks b o w (List.mem_cons_of_mem _ h)
    have ne : b ≠ a := fun e => hlk o w (e ▸ h)
    exact ⟨by rw [upd_ne ne]; exact hb.1, hb.2⟩
  · have ne : b ≠ a := fun e => no0 (e ▸ h)
    obtain ⟨v, h1, h2⟩ := E'.o0 b h
    refine ⟨v, ?_, h2⟩
    rcases h1 with h1 | ⟨o, h1⟩
    · exact .inl (by rw [upd_ne ne]; exact h1)
    · exact .inr ⟨o, by rw [upd_ne ne]; exact h1⟩
theorem noErr_lc {vs : List Nat} {g : D → Env → Res Env} {cnd : Env → Res (Bool × Env)} {elt : SE} {X X' : Nat → D → Prop} : ∀ (ds : List D) (ρ : Env) {Q : List D × Env → Prop}, Wp (lcL vs g cnd elt ds ρ) X Q → Wp (lcL vs g cnd elt ds ρ) X' Q
  | [], _, _, h => h
  | d :: ds, ρ, Q, h => by
    have e0 : lcL vs g cnd elt (d :: ds) ρ = (noErr (g d (wipeE ρ vs)) >>= fun ρ1 => noErr (cnd ρ1) >>= fun r => bif r.1 then noErr (elt r.2) >>= fun r2 => ofOpt (valOf r2.1) >>= fun x => lcL vs g cnd elt ds r2.2 >>= fun r3 => .ok (x :: r3.1, r3.2) else lcL vs g cnd elt ds r.2) := rfl
    rw [e0] at h ⊢
    cases hg : g d (wipeE ρ vs) with
    | err c p => rw [hg] at h; exact h.elim
    | stuck => rw [hg] at h; exact h.elim
    | ok ρ1 =>
      rw [hg] at h
      have r1 : ∀ {α : Type} (a : α), noErr (.ok a : Res α) = .ok a := fun a => rfl
      simp only [r1, ok_bind] at h ⊢
      cases hb : cnd ρ1 with
      | err c p => rw [hb] at h; exact h.elim
      | stuck => rw [hb] at h; exact h.elim
      | ok r =>
        rw [hb] at h
        simp only [r1, ok_bind] at h ⊢
        obtain ⟨b, ρ2⟩ := r
        cases b with
        | false => exact noErr_lc ds ρ2 h
        | true =>
          simp only [cond_true] at h ⊢
          cases he : elt ρ2 with
          | err c p => rw [he] at h; exact h.elim
          | stuck => rw [he] at h; exact h.elim
          | ok r2 =>
            rw [he] at h
            simp only [r1, ok_bind] at h ⊢
            cases hv : valOf r2.1 with
            | none => rw [hv] at h; exact h.elim
            | some x =>
              rw [hv] at h
              have h' : Wp (lcL vs g cnd elt ds r2.2 >>= fun r3 => (.ok (x :: r3.1, r3.2) : Res (List D × Env))) X Q := h
              show Wp (lcL vs g cnd elt ds r2.2 >>= fun r3 => (.ok (x :: r3.1, r3.2) : Res (List D × Env))) X' Q
              have h2 := noErr_lc (X' := X') ds r2.2 (Wp.bind h')
              cases hl : lcL vs g cnd elt ds r2.2 with
              | err c p =>
                rw [hl] at h'
                rw [hl] at h2
                exact h2
              | stuck => rw [hl] at h2; exact h2
              | ok r3 => rw [hl] at h2; exact h2
theorem noErr_fLc {vs : List Nat} {xs : List D} {g : D → Env → Res Env} {cnd : Env → Res (Bool × Env)} {elt : SE} {ρ : Env} {X X' : Nat → D → Prop} {Q : D × Env → Prop} (h : Wp (fLc vs (fun ρ' => .ok (xs, ρ')) g cnd elt ρ) X Q) : Wp (fLc vs (fun ρ' => .ok (xs, ρ')) g cnd elt ρ) X' Q := by
  have e : fLc vs (fun ρ' => .ok (xs, ρ')) g cnd elt ρ = (ofOpt (lim xs.length) >>= fun _ => lcL vs g cnd elt xs ρ >>= fun r2 => .ok (.lst r2.1, restE ρ r2.2 vs)) := rfl
  rw [e] at h ⊢
  cases hv : lim xs.length with
  | none => rw [hv] at h; exact h.elim
  | some x =>
    rw [hv] at h
    have h' : Wp (lcL vs g cnd elt xs ρ >>= fun r2 => (.ok (.lst r2.1, restE ρ r2.2 vs) : Res (D × Env))) X Q := h
    show Wp (lcL vs g cnd elt xs ρ >>= fun r2 => (.ok (.lst r2.1, restE ρ r2.2 vs) : Res (D × Env))) X' Q
    have h2 := noErr_lc (X' := X') xs ρ (Wp.bind h')
    cases hl : lcL vs g cnd elt xs ρ with
    | err c p => rw [hl] at h2; exact h2
    | stuck => rw [hl] at h2; exact h2
    | ok r3 => rw [hl] at h2; exact h2
theorem pe_alt {e : Expr} {t t' : TE} (h : PE X e t) (h' : PE X e t') : PE X e (fun σ H Q => t σ H Q ∨ t' σ H Q) :=
  ⟨fun pins s σ H Q I q => q.elim (h.run pins s σ H Q I) (h'.run pins s σ H Q I)⟩
/-- the reading of a comprehension over a dict -/
theorem lcK_can {i : Nat} {ts : List Nat} {g : D → Env → Res Env} {cnd : Env → Res (Bool × Env)} {elt : SE} {vs : List Nat} {tt : TT} (hi : i ∉ S.ow) (ho : ∀ v, v ∈ vs → v ∉ S.ow) (hf : ∀ v, v ∈ vs → v ∉ S.fx) (hts : ∀ i, i ∈ ts → i ∈ vs)
    (qt : ∀ (C : EC) (σ : St) (H : Hp) (ρ : Env) (Q : Bool → Hp → Prop), ER X.K S C σ H ρ → Wp (cnd ρ) (XOk X.K S WF C) (fun r => ∀ H', ER X.K S C σ H' r.2 → Adv (C.mo S σ ρ) H (C.mo S σ r.2) H' → Q r.1 H') → tt σ H Q)
    (C : EC) (σ : St) (H : Hp) (ρ : Env) (Q : VK) (E : ER X.K S C σ H ρ)
    (w : Wp (fLc vs (iKy i) g cnd elt ρ) (XOk X.K S W C) (fun r => ∀ p H', H p = none → ¬ C.O S σ r.2 p → ER X.K S (C.pl [p]) σ H' r.2 → Adv (C.mo S σ ρ) H (C.mo S σ r.2) H' → OwnAt X.K S.T ((C.pl [p]).O S σ r.2) H' p r.1 → Q (.ref p) H')) :
    tLockE (tLc (iKyT i) (canG X.K S ts g) tt (canE X.K S WF elt) vs) σ H Q ∨ tLc (iKyT i) (canG X.K S ts g) tt (canE X.K S WF elt) vs σ H Q := by
  obtain ⟨r, hr, w1⟩ := iKy_ok (Wp.bind w)
  obtain ⟨er, a, no, hl⟩ := ky_lock (X := X) hi E hr
  obtain ⟨xs, ρ0⟩ := r
  obtain rfl : ρ = ρ0 := er.symm
  have nM : ¬ EC.M S σ ρ a := fun z => no (.inr z)
  let fi0 : Env → Res (List D × Env) := fun ρ' => .ok (xs, ρ')
  have efl : fLc vs (iKy i) g cnd elt ρ = fLc vs fi0 g cnd elt ρ := by
    show (iKy i ρ >>= _) = _
    rw [hr]
    rfl
  rw [efl] at w
  rcases hl with ⟨u, hrd, mu, hJ⟩ | ⟨J, it, hJ⟩
  · refine .inl ⟨a, u, hrd, mu, fun od => ?_⟩
    obtain ⟨J, it, hJ⟩ := hJ od
    have E1 := E.lock (od := od) hrd mu no
    have hlkn : ∀ o w, (a, o, w) ∉ C.lk := fun o w hm => by
      have := (E.lks a o w hm).1
      rw [hrd] at this
      cases this
      exact mut_nofrz mu
    refine lc_canA (X := X) (W := W) (fi := fi0) ho hf hts qt (C.lock a od u) σ _ ρ _ E1 (fun R hW => hJ R (hW J _ E1 (.refl _ _) it)) ?_
    refine (noErr_fLc w).mono (fun _ _ h => h) fun r _ h p H' hp1 hO' E' A' how => ?_
    have hpa : p ≠ a := fun e => by rw [e, upd_same] at hp1; cases hp1
    have hp : H p = none := by rw [upd_ne hpa] at hp1; exact hp1
    have hl : H' a = some (.frz od u) := (E'.lks a od u List.mem_cons_self).1
    refine ⟨hl, h p _ hp hO' (ER.unlock' (C := C.pl [p]) (fun w hw => ?_) hlkn (fun z => z.elim (fun z => no (.inl z)) fun z => hpa (List.mem_singleton.mp z).symm) E') (adv_unlock hrd nM A') (OwnAt.advp (ra_unlock (C := C.pl [p]) mu hl) (upd_ne hpa) how)⟩
    rcases E.fr a w hw with z | z | z
    · exact .inl z
    · rw [hrd] at z; cases z; exact .inr (.inl rfl)
    · exact .inr (.inr z)
  · exact .inr (lc_canA (X := X) (W := W) (fi := fi0) ho hf hts qt C σ H ρ Q E (fun R hW => hJ R (hW J _ E (.refl _ _) it)) w)
/-- [elt for tg in d (if c)] -/
theorem ef_lcK {elt tg : Expr} {i : Nat} {x : Str} {p : Pos} {scope : Scope} {own : List (Str × Nat)} {ts : List Nat} {g : D → Env → Res Env} {fe : SE} (hc : X.calm = true) (hN : X.N.Nodup) (ho : ∀ v, v ∈ own.map (·.2) → v ∉ S.ow) (hf : ∀ v, v ∈ own.map (·.2) → v ∉ S.fx) (hts : ∀ i, i ∈ ts → i ∈ own.map (·.2))
    (hi : i ∉ S.ow) (hNi : X.N[i]? = some x) (hv : Vis X.env.scope x) (ok : BlkOk X.N X.env.scope scope own)
    (hg : ∀ (s : Shared) (H : Hp) (C : Addr) (cl : List (Str × Addr)) (fp : List Addr), EvG (X.blk s H scope (compEnvC scope cl C X.env) fp) S ts tg g)
    (he : ∀ (s : Shared) (H : Hp) (C : Addr) (cl : List (Str × Addr)) (fp : List Addr), EvE (X.blk s H scope (compEnvC scope cl C X.env) fp) S WF elt fe) (hs : ∀ z, foldedSetIterable (.Name x p) X.env z = pure z := by intro _; rfl) (hd : (x == ("__debug__" : Str)) = false := by decide) (hcd : (x == ("__classdict__" : Str)) = false := by decide) :
    EvF X S W (.ListComp elt [⟨tg, .Name x p, [], 0⟩] scope pos) (fLc (own.map (·.2)) (iKy i) g cYes fe) := by
  have hq := pe_lc (pos := pos) hc hN (pi_ky (p := p) hNi hv hd hcd) ok (g := canG X.K S ts g) (tt := tYes) (te := canE X.K S WF fe) (fun s H C cl fp => (hg s H C cl fp).can) (fun _ _ _ _ _ => pts_nil) (fun s H C cl fp => (he s H C cl fp).can) hs
  exact ⟨_, pe_alt (pe_lock hq) hq, fun C σ H ρ Q E w => lcK_can (cnd := cYes) hi ho hf hts (fun C σ H ρ Q E w => w H E (.refl _ _)) C σ H ρ Q E w⟩
end
end EV

namespace EV
open PySem PySem.Spec L2 SX
open PyProof.Rows hiding St
/-! ### running mirrors by simp -/
variable {ρ : Env}
@[simp] theorem r_ofSome {α : Type} (a : α) : ofOpt (some a) = .ok a := nr rfl
@[simp] theorem r_gt0 (x : Option D) (l : Env) : gt (x :: l) 0 = x := nr rfl
@[simp] theorem r_gtS (x : Option D) (l : Env) (i : Nat) : gt (x :: l) (i + 1) = gt l i := nr rfl
@[simp] theorem r_st0 (x y : Option D) (l : Env) : st (x :: l) 0 y = y :: l := nr rfl
@[simp] theorem r_stS (x y : Option D) (l : Env) (i : Nat) : st (x :: l) (i + 1) y = x :: st l i y := nr rfl
@[simp] theorem r_eC (d : D) : eC d ρ = .ok (.val d, ρ) := nr rfl
@[simp] theorem r_eVar (i : Nat) : eVar i ρ = (ofOpt (gt ρ i) >>= fun d => .ok (.val d, ρ)) := nr rfl
@[simp] theorem r_ePlc (i : Nat) : ePlc i ρ = (ofOpt (gt ρ i) >>= fun _ => .ok (.plc i, ρ)) := nr rfl
@[simp] theorem r_deref (d : D) : deref ρ (.val d) = .ok d := nr rfl
@[simp] theorem r_derefP (i : Nat) : deref ρ (.plc i) = ofOpt (gt ρ i) := nr rfl
@[simp] theorem r_eBin (g : D → D → Option D) (f1 f2 : SE) : eBin g f1 f2 ρ = (f1 ρ >>= fun r1 => f2 r1.2 >>= fun r2 => deref r2.2 r1.1 >>= fun d1 => deref r2.2 r2.1 >>= fun d2 => ofOpt (g d1 d2) >>= fun d => .ok (.val d, r2.2)) := nr rfl
@[simp] theorem r_eUn (g : D → Option D) (f1 : SE) : eUn g f1 ρ = (f1 ρ >>= fun r1 => deref r1.2 r1.1 >>= fun d1 => ofOpt (g d1) >>= fun d => .ok (.val d, r1.2)) := nr rfl
@[simp] theorem r_asB (b : Bool) : asB (.val (.bl b)) = some b := nr rfl
@[simp] theorem r_asI (i : Int) : asI (.val (.int i)) = some i := nr rfl
@[simp] theorem r_tB (f : SE) : tB f ρ = (f ρ >>= fun r => ofOpt (asB r.1) >>= fun k => .ok (k, r.2)) := nr rfl
@[simp] theorem r_tTru (f : SE) : tTru f ρ = (f ρ >>= fun r => deref r.2 r.1 >>= fun d => ofOpt (truth d) >>= fun k => .ok (k, r.2)) := nr rfl
@[simp] theorem r_tNot (f : Env → Res (Bool × Env)) : tNot f ρ = (f ρ >>= fun r => .ok (!r.1, r.2)) := nr rfl
@[simp] theorem r_tAnd (f g : Env → Res (Bool × Env)) : tAnd f g ρ = (f ρ >>= fun r => bif r.1 then g r.2 else .ok (false, r.2)) := nr rfl
@[simp] theorem r_tOr (f g : Env → Res (Bool × Env)) : tOr f g ρ = (f ρ >>= fun r => bif r.1 then .ok (true, r.2) else g r.2) := nr rfl
@[simp] theorem r_eAnd (f g : SE) : eAnd f g ρ = (f ρ >>= fun r => ofOpt (asB r.1) >>= fun k => bif k then g r.2 else .ok (.val (.bl false), r.2)) := nr rfl
@[simp] theorem r_eOr (f g : SE) : eOr f g ρ = (f ρ >>= fun r => ofOpt (asB r.1) >>= fun k => bif k then .ok (.val (.bl true), r.2) else g r.2) := nr rfl
@[simp] theorem r_eNot (f : SE) : eNot f ρ = (f ρ >>= fun r => ofOpt (asB r.1) >>= fun k => .ok (.val (.bl (!k)), r.2)) := nr rfl
@[simp] theorem r_eIf (t : Env → Res (Bool × Env)) (f g : SE) : eIf t f g ρ = (t ρ >>= fun r => bif r.1 then f r.2 else g r.2) := nr rfl
@[simp] theorem r_eChain (g g' : D → D → Option D) (f1 f2 f3 : SE) : eChain g g' f1 f2 f3 ρ = (f1 ρ >>= fun r1 => f2 r1.2 >>= fun r2 => deref r2.2 r1.1 >>= fun d1 => deref r2.2 r2.1 >>= fun d2 => ofOpt (g d1 d2) >>= fun d => ofOpt (asB (.val d)) >>= fun k =>
  bif k then f3 r2.2 >>= fun r3 => deref r3.2 r2.1 >>= fun d2' => deref r3.2 r3.1 >>= fun d3 => ofOpt (g' d2' d3) >>= fun d' => .ok (.val d', r3.2) else .ok (.val (.bl false), r2.2)) := nr rfl
@[simp] theorem r_aNil : aNil ρ = .ok ([], ρ) := nr rfl
@[simp] theorem r_aCons (f : SE) (fs : Env → Res (List DV × Env)) : aCons f fs ρ = (f ρ >>= fun r1 => fs r1.2 >>= fun r2 => .ok (r1.1 :: r2.1, r2.2)) := nr rfl
@[simp] theorem r_vals0 : vals [] = some [] := nr rfl
@[simp] theorem r_valsS (d : D) (r : List DV) : vals (.val d :: r) = (vals r).map (d :: ·) := nr rfl
@[simp] theorem r_eTup (fs : Env → Res (List DV × Env)) : eTup fs ρ = (fs ρ >>= fun r => ofOpt (vals r.1) >>= fun ds => ofOpt (lim ds.length) >>= fun _ => .ok (.val (.tup ds), r.2)) := nr rfl
@[simp] theorem r_fLst (fs : Env → Res (List DV × Env)) : fLst fs ρ = (fs ρ >>= fun r => ofOpt (vals r.1) >>= fun ds => ofOpt (lim ds.length) >>= fun _ => .ok (.lst ds, r.2)) := nr rfl
@[simp] theorem r_eF (f : Env → Res (D × Env)) : eF f ρ = (f ρ >>= fun r => .ok (.val r.1, r.2)) := nr rfl
@[simp] theorem r_fBin (g : D → D → Option D) (f1 f2 : SE) : fBin g f1 f2 ρ = (f1 ρ >>= fun r1 => f2 r1.2 >>= fun r2 => deref r2.2 r1.1 >>= fun d1 => deref r2.2 r2.1 >>= fun d2 => ofOpt (g d1 d2) >>= fun d => .ok (d, r2.2)) := nr rfl
@[simp] theorem r_eBlt (g : List D → Option D) (fs : Env → Res (List DV × Env)) : eBlt g fs ρ = (fs ρ >>= fun r => ofOpt (rdA r.2 r.1) >>= fun ds => ofOpt (g ds) >>= fun d => .ok (.val d, r.2)) := nr rfl
@[simp] theorem r_fBlt (g : List D → Option D) (fs : Env → Res (List DV × Env)) : fBlt g fs ρ = (fs ρ >>= fun r => ofOpt (rdA r.2 r.1) >>= fun ds => ofOpt (g ds) >>= fun d => .ok (d, r.2)) := nr rfl
@[simp] theorem r_rdA0 : rdA ρ [] = some [] := nr rfl
@[simp] theorem r_rdAv (d : D) (r : List DV) : rdA ρ (.val d :: r) = (rdA ρ r).map (d :: ·) := nr rfl
@[simp] theorem r_rdAp (i : Nat) (r : List DV) : rdA ρ (.plc i :: r) = (gt ρ i).bind fun d => (rdA ρ r).map (d :: ·) := nr rfl
@[simp] theorem r_eIsi (k : Nat) (f : SE) : eIsi k f ρ = (f ρ >>= fun r => deref r.2 r.1 >>= fun d => ofOpt (isD k d) >>= fun b => .ok (.val (.bl b), r.2)) := nr rfl
@[simp] theorem r_bNil : bNil ρ = .ok (.nx, ρ) := nr rfl
theorem r_bCons (f g : SS) : bCons f g ρ = (f ρ >>= fun r => match r.1 with | .nx => g r.2 | fl => .ok (fl, r.2)) := nr rfl
@[simp] theorem r_sRet (f : SE) : sRet f ρ = (f ρ >>= fun r => ofOpt (valOf r.1) >>= fun d => .ok (.ret d, r.2)) := nr rfl
@[simp] theorem r_valOf (d : D) : valOf (.val d) = some d := nr rfl
@[simp] theorem r_sExpr (f : SE) : sExpr f ρ = (f ρ >>= fun r => .ok (.nx, r.2)) := nr rfl
@[simp] theorem r_sIf (t : Env → Res (Bool × Env)) (f g : SS) : sIf t f g ρ = (t ρ >>= fun r => bif r.1 then f r.2 else g r.2) := nr rfl
@[simp] theorem r_sSet (i : Nat) (f : SE) : sSet i f ρ = (f ρ >>= fun r => ofOpt (valOf r.1) >>= fun d => .ok (.nx, st r.2 i (some d))) := nr rfl
@[simp] theorem r_sSetF (i : Nat) (f : Env → Res (D × Env)) : sSetF i f ρ = (f ρ >>= fun r => .ok (.nx, st r.2 i (some r.1))) := nr rfl
@[simp] theorem r_gNm (i : Nat) (d : D) : gNm i d ρ = .ok (st ρ i (some d)) := nr rfl
@[simp] theorem r_noErr {α : Type} (a : α) : noErr (.ok a : Res α) = .ok a := nr rfl
@[simp] theorem r_pNone : pNone ρ = .ok (none, ρ) := nr rfl
@[simp] theorem r_pSome (f : SE) : pSome f ρ = (f ρ >>= fun r => ofOpt (asI r.1) >>= fun i => .ok (some i, r.2)) := nr rfl
@[simp] theorem r_eSl (f : SE) (fl fh : Env → Res (Option Int × Env)) : eSl f fl fh ρ = (f ρ >>= fun r => fl r.2 >>= fun l => fh l.2 >>= fun h => deref h.2 r.1 >>= fun d => ofOpt (dSl d l.1 h.1) >>= fun d' => .ok (.val d', h.2)) := nr rfl
@[simp] theorem r_iSeq (f : SE) : iSeq f ρ = (f ρ >>= fun r => ofOpt (seqOf r.1) >>= fun ds => .ok (ds, r.2)) := nr rfl
@[simp] theorem r_iRng (k : List D → Option (List D)) (fs : Env → Res (List DV × Env)) : iRng k fs ρ = (fs ρ >>= fun r => ofOpt (vals r.1) >>= fun ds => ofOpt (k ds) >>= fun xs => .ok (xs, r.2)) := nr rfl
@[simp] theorem r_sFor (fi : Env → Res (List D × Env)) (g : D → Env → Res Env) (B : SS) : sFor fi g B ρ = (fi ρ >>= fun r => forL g B r.1 r.2) := nr rfl
@[simp] theorem r_bFrz (i : Nat) (f : SS) : bFrz i f ρ = (gd (isLive i ρ) >>= fun _ => f ρ >>= fun r => .ok (r.1, st r.2 i none)) := nr rfl
@[simp] theorem r_gd : gd true = .ok () := nr rfl
@[simp] theorem r_sAsgN (g : D → Env → Res Env) (f : SE) : sAsgN g f ρ = (f ρ >>= fun r => ofOpt (valOf r.1) >>= fun d => noErr (g d r.2) >>= fun ρ' => .ok (.nx, ρ')) := nr rfl
@[simp] theorem r_qNil : qNil ρ = .ok ([], ρ) := nr rfl
@[simp] theorem r_qVal (f : SE) (fs : Env → Res (List (Bool × D) × Env)) : qVal f fs ρ = (f ρ >>= fun r1 => ofOpt (valOf r1.1) >>= fun d => fs r1.2 >>= fun r2 => .ok ((false, d) :: r2.1, r2.2)) := nr rfl
@[simp] theorem r_qNew (f : Env → Res (D × Env)) (fs : Env → Res (List (Bool × D) × Env)) : qNew f fs ρ = (f ρ >>= fun r1 => fs r1.2 >>= fun r2 => .ok ((true, r1.1) :: r2.1, r2.2)) := nr rfl
@[simp] theorem r_sPar (is : List (Nat × Bool)) (fq : Env → Res (List (Bool × D) × Env)) : sPar is fq ρ = (fq ρ >>= fun r => ofOpt (stsQ r.2 is r.1) >>= fun ρ' => .ok (.nx, ρ')) := nr rfl
@[simp] theorem r_stsQ0 : stsQ ρ [] [] = some ρ := nr rfl
@[simp] theorem r_stsQS (i : Nat) (b b' : Bool) (d : D) (is : List (Nat × Bool)) (xs : List (Bool × D)) : stsQ ρ ((i, b) :: is) ((b', d) :: xs) = bif b == b' then stsQ (st ρ i (some d)) is xs else none := nr rfl
@[simp] theorem r_gsNil : gsNil [] ρ = .ok ρ := nr rfl
@[simp] theorem r_isInt (i : Int) : isD 0 (.int i) = some true := nr rfl
end EV

namespace EV
open PySem PySem.Spec L2 SX
open PyProof.Rows hiding St
/-! ### tools for plain laws -/
theorem at0 {α : Type} (x : α) (l : List α) : L2.atI (x :: l) 0 = some x := by simp [L2.atI, ixN]
theorem at1 {α : Type} (x y : α) (l : List α) : L2.atI (x :: y :: l) 1 = some y := by
  have : (1 : Int) < (l.length : Int) + 1 + 1 := by omega
  simp [L2.atI, ixN, this]
theorem atN {α : Type} {l : List α} {i : Nat} (h : i < l.length) : L2.atI l (i : Int) = some l[i] := by
  have h1 : (0 : Int) ≤ (i : Int) := by omega
  have h2 : (i : Int) < (l.length : Int) := by omega
  simp [L2.atI, ixN, h1, h2, h]
theorem ix0 {n : Nat} : ixN (n + 1) 0 = some 0 := by simp [ixN]
theorem ix1 {n : Nat} : ixN (n + 2) 1 = some 1 := by
  have : (1 : Int) < (n : Int) + 2 := by omega
  simp [ixN, this]
@[simp] theorem r_lent (i : Nat) (r : List DV) : lentOf (.plc i :: r) = some (i, r) := nr rfl
@[simp] theorem r_noPl0 : noPl [] = true := nr rfl
@[simp] theorem r_noPlv (d : D) (r : List DV) : noPl (.val d :: r) = noPl r := nr rfl
@[simp] theorem r_noPlp (i : Nat) (r : List DV) : noPl (.plc i :: r) = false := nr rfl
@[simp] theorem r_hasPl0 (i : Nat) : hasPl i [] = false := nr rfl
@[simp] theorem r_hasPlv (i : Nat) (d : D) (r : List DV) : hasPl i (.val d :: r) = hasPl i r := nr rfl
@[simp] theorem r_hasPlp (i j : Nat) (r : List DV) : hasPl i (.plc j :: r) = (i == j || hasPl i r) := nr rfl
@[simp] theorem r_shieldT (r : Res (D × List D)) : shield true r = r := by cases r <;> rfl
@[simp] theorem r_shieldOk (b : Bool) (o : D × List D) : shield b (.ok o) = bif b || o.1.flat then .ok o else .stuck := nr rfl
@[simp] theorem r_okLent (b : Bool) (d : D) (r : List D) : okLent b (d :: r) = bif b || d.flatC then some d else none := nr rfl
theorem r_eCall (F : FS) (fs : Env → Res (List DV × Env)) (ρ : Env) : eCall F fs ρ = (fs ρ >>= fun r => ofOpt (rdA r.2 r.1) >>= fun ds => gd (decide (ds.length = F.np)) >>= fun _ => shield (noPl r.1) (F.m ds) >>= fun o => .ok (.val o.1, r.2)) := nr rfl
theorem r_eCallC (F : FS) (fs : Env → Res (List DV × Env)) (ρ : Env) : eCallC F fs ρ = (fs ρ >>= fun r => ofOpt (lentOf r.1) >>= fun l => ofOpt (gt r.2 l.1) >>= fun d0 => ofOpt (rdA r.2 l.2) >>= fun ds => gd (decide (ds.length + 1 = F.np)) >>= fun _ => gd (!hasPl l.1 l.2) >>= fun _ =>
  shield (noPl l.2) (F.m (d0 :: ds)) >>= fun o => ofOpt (okLent (noPl l.2) o.2) >>= fun d => .ok (.val o.1, st r.2 l.1 (some d))) := rfl
/-- what a def comes to -/
def Val (F : FS) (ds : List D) (d : D) : Prop := ∃ o, F.m ds = .ok (d, o)

/-! ### the slots but some -/
structure Same (vs : List Nat) (ρ ρ' : Env) : Prop where
  len : ρ'.length = ρ.length
  at_ : ∀ j, j ∉ vs → gt ρ' j = gt ρ j
theorem Same.refl (vs : List Nat) (ρ : Env) : Same vs ρ ρ := ⟨rfl, fun _ _ => rfl⟩
theorem Same.trans {vs : List Nat} {a b c : Env} (h : Same vs a b) (k : Same vs b c) : Same vs a c := ⟨k.len.trans h.len, fun j hj => (k.at_ j hj).trans (h.at_ j hj)⟩
theorem env_ext : ∀ {a b : Env}, a.length = b.length → (∀ j, gt a j = gt b j) → a = b
  | [], [], _, _ => rfl
  | [], _ :: _, h, _ => by simp at h
  | _ :: _, [], h, _ => by simp at h
  | x :: a, y :: b, h, k => by
    have h0 : x = y := k 0
    rw [h0, env_ext (a := a) (b := b) (by simpa using h) fun j => k (j + 1)]
theorem Same.wipe {vs : List Nat} {a b : Env} (h : Same vs a b) : wipeE b vs = wipeE a vs := env_ext (by rw [wipeE_length, wipeE_length, h.len]) fun j => by
  rw [gt_wipeE, gt_wipeE]
  split
  · rfl
  · exact h.at_ j (by assumption)
theorem Same.rest {vs : List Nat} {a b : Env} (h : Same vs a b) : restE a b vs = a := env_ext (by rw [restE_length, h.len]) fun j => by
  rw [gt_restE h.len]
  split
  · rfl
  · exact h.at_ j (by assumption)
theorem same_wipe (vs : List Nat) (ρ : Env) : Same vs ρ (wipeE ρ vs) := ⟨wipeE_length ρ vs, fun j hj => by rw [gt_wipeE, if_neg hj]⟩
theorem Same.st {vs : List Nat} {a b : Env} {i : Nat} {d : Option D} (h : Same vs a b) (hi : i ∈ vs) : Same vs a (EV.st b i d) := ⟨by rw [st_length]; exact h.len, fun j hj => by
  rw [gt_st_ne b i j d fun e => hj (e ▸ hi)]
  exact h.at_ j hj⟩

/-! ### comprehensions that change nothing -/
theorem lcL_pure {α : Type} {vs : List Nat} {g : D → Env → Res Env} {cnd : Env → Res (Bool × Env)} {elt : SE} {ρ0 : Env} {e : α → D} {p : α → Bool} {f : α → D} : ∀ (ts : List α) (ρ : Env), Same vs ρ0 ρ →
    (∀ t, t ∈ ts → ∃ ρ1, g (e t) (wipeE ρ0 vs) = .ok ρ1 ∧ Same vs ρ0 ρ1 ∧ cnd ρ1 = .ok (p t, ρ1) ∧ (p t = true → elt ρ1 = .ok (.val (f t), ρ1))) →
    ∃ ρ', Same vs ρ0 ρ' ∧ lcL vs g cnd elt (ts.map e) ρ = .ok ((ts.filter p).map f, ρ')
  | [], ρ, s, _ => ⟨ρ, s, rfl⟩
  | t :: ts, ρ, s, h => by
    obtain ⟨ρ1, h1, s1, h2, h3⟩ := h t List.mem_cons_self
    obtain ⟨ρ', s', h4⟩ := lcL_pure ts ρ1 s1 fun u hu => h u (List.mem_cons_of_mem _ hu)
    refine ⟨ρ', s', ?_⟩
    show (noErr (g (e t) (wipeE ρ vs)) >>= fun ρ1 => noErr (cnd ρ1) >>= fun r => bif r.1 then noErr (elt r.2) >>= fun r2 => ofOpt (valOf r2.1) >>= fun x => lcL vs g cnd elt (ts.map e) r2.2 >>= fun r3 => .ok (x :: r3.1, r3.2) else lcL vs g cnd elt (ts.map e) r.2) = _
    rw [s.wipe, h1]
    simp only [r_noErr, ok_bind]
    rw [h2]
    simp only [r_noErr, ok_bind]
    cases q : p t with
    | true =>
      rw [h3 q]
      simp only [cond_true, r_noErr, ok_bind, r_valOf, r_ofSome, h4, List.filter_cons, q, if_true, List.map_cons]
    | false =>
      simp [cond_false, h4, List.filter_cons, q]
theorem fLc_pure {α : Type} {vs : List Nat} {fi : Env → Res (List D × Env)} {g : D → Env → Res Env} {cnd : Env → Res (Bool × Env)} {elt : SE} {ρ : Env} (ts : List α) (e : α → D) (p : α → Bool) (f : α → D) (hi : fi ρ = .ok (ts.map e, ρ)) (hl : ts.length ≤ LIM)
    (h : ∀ t, t ∈ ts → ∃ ρ1, g (e t) (wipeE ρ vs) = .ok ρ1 ∧ Same vs ρ ρ1 ∧ cnd ρ1 = .ok (p t, ρ1) ∧ (p t = true → elt ρ1 = .ok (.val (f t), ρ1))) : fLc vs fi g cnd elt ρ = .ok (.lst ((ts.filter p).map f), ρ) := by
  obtain ⟨ρ', s', h4⟩ := lcL_pure (f := f) ts ρ (Same.refl _ _) h
  unfold fLc
  rw [hi]
  have hl' : lim (ts.map e).length = some () := by
    unfold lim
    rw [List.length_map, if_pos hl]
  simp only [ok_bind, hl', r_ofSome, h4, s'.rest]
theorem filter_yes {α : Type} (ts : List α) : ts.filter (fun _ => true) = ts := List.filter_eq_self.mpr fun _ _ => rfl
/-- .. without a condition -/
theorem fLc_map {α : Type} {vs : List Nat} {fi : Env → Res (List D × Env)} {g : D → Env → Res Env} {elt : SE} {ρ : Env} (ts : List α) (e : α → D) (f : α → D) (hi : fi ρ = .ok (ts.map e, ρ)) (hl : ts.length ≤ LIM)
    (h : ∀ t, t ∈ ts → ∃ ρ1, g (e t) (wipeE ρ vs) = .ok ρ1 ∧ Same vs ρ ρ1 ∧ elt ρ1 = .ok (.val (f t), ρ1)) : fLc vs fi g cYes elt ρ = .ok (.lst (ts.map f), ρ) := by
  have := fLc_pure (cnd := cYes) ts e (fun _ => true) f hi hl fun t ht => let ⟨ρ1, a, b, c⟩ := h t ht; ⟨ρ1, a, b, rfl, fun _ => c⟩
  rw [filter_yes] at this
  exact this
/-! ### comprehensions that draw -/
theorem lcL_st {α : Type} {vs : List Nat} {g : D → Env → Res Env} {elt : SE} {e : α → D} {I : Env → Prop} {P : D → Prop} : ∀ (ts : List α) (ρ : Env), I ρ →
    (∀ t, t ∈ ts → ∀ ρ, I ρ → ∃ ρ1 d ρ2, g (e t) (wipeE ρ vs) = .ok ρ1 ∧ elt ρ1 = .ok (.val d, ρ2) ∧ P d ∧ I ρ2) →
    ∃ ds ρ', lcL vs g cYes elt (ts.map e) ρ = .ok (ds, ρ') ∧ ds.length = ts.length ∧ (∀ d, d ∈ ds → P d) ∧ I ρ'
  | [], ρ, i, _ => ⟨[], ρ, rfl, rfl, (fun _ h => (nomatch h)), i⟩
  | t :: ts, ρ, i, h => by
    obtain ⟨ρ1, d, ρ2, h1, h2, hp, i2⟩ := h t List.mem_cons_self ρ i
    obtain ⟨ds, ρ', h4, hl, hps, i'⟩ := lcL_st ts ρ2 i2 fun u hu => h u (List.mem_cons_of_mem _ hu)
    refine ⟨d :: ds, ρ', ?_, congrArg (· + 1) hl, fun x hx => (List.mem_cons.mp hx).elim (fun z => z ▸ hp) (hps x), i'⟩
    show (noErr (g (e t) (wipeE ρ vs)) >>= fun ρ1 => noErr (cYes ρ1) >>= fun r => bif r.1 then noErr (elt r.2) >>= fun r2 => ofOpt (valOf r2.1) >>= fun x => lcL vs g cYes elt (ts.map e) r2.2 >>= fun r3 => .ok (x :: r3.1, r3.2) else lcL vs g cYes elt (ts.map e) r.2) = _
    rw [h1]
    simp only [r_noErr, ok_bind, cYes, cond_true, h2, r_valOf, r_ofSome, h4]

/-! ### loops -/
theorem forL_w {α : Type} {g : D → Env → Res Env} {B : SS} {e : α → D} {I : List α → Env → Prop} {Q : Fl × Env → Prop} : ∀ (ts : List α) (ρ : Env), I ts ρ →
    (∀ t rest ρ, I (t :: rest) ρ → ∃ ρ1 fl ρ2, g (e t) ρ = .ok ρ1 ∧ B ρ1 = .ok (fl, ρ2) ∧ match fl with | .nx => I rest ρ2 | .cont => I rest ρ2 | .brk => Q (.nx, ρ2) | .ret v => Q (.ret v, ρ2)) →
    (∀ ρ, I [] ρ → Q (.nx, ρ)) → ∃ r, forL g B (ts.map e) ρ = .ok r ∧ Q r
  | [], ρ, i, _, hf => ⟨_, rfl, hf ρ i⟩
  | t :: ts, ρ, i, h, hf => by
    obtain ⟨ρ1, fl, ρ2, h1, h2, h3⟩ := h t ts ρ i
    have e0 : forL g B ((t :: ts).map e) ρ = (noErr (g (e t) ρ) >>= fun ρ1 => B ρ1 >>= fun r => match r.1 with
      | .nx => forL g B (ts.map e) r.2
      | .cont => forL g B (ts.map e) r.2
      | .brk => .ok (.nx, r.2)
      | .ret v => .ok (.ret v, r.2)) := rfl
    rw [e0, h1]
    simp only [r_noErr, ok_bind, h2]
    cases fl with
    | nx => exact forL_w ts ρ2 h3 h hf
    | cont => exact forL_w ts ρ2 h3 h hf
    | brk => exact ⟨_, rfl, h3⟩
    | ret v => exact ⟨_, rfl, h3⟩
/-- a loop as a fold -/
theorem forL_nil {g : D → Env → Res Env} {B : SS} {ρ : Env} : forL g B [] ρ = .ok (.nx, ρ) := rfl
theorem forL_next {g : D → Env → Res Env} {B : SS} {ρ ρ1 ρ2 : Env} {d : D} {ds : List D} (h1 : g d ρ = .ok ρ1) (h2 : B ρ1 = .ok (.nx, ρ2)) : forL g B (d :: ds) ρ = forL g B ds ρ2 := by
  show (noErr (g d ρ) >>= fun ρ1 => B ρ1 >>= fun r => match r.1 with
      | .nx => forL g B ds r.2
      | .cont => forL g B ds r.2
      | .brk => .ok (.nx, r.2)
      | .ret v => .ok (.ret v, r.2)) = _
  rw [h1]
  simp only [r_noErr, ok_bind, h2]
/-! ### operators on data, by kind -/
@[simp] theorem r_lim {n : Nat} (h : n ≤ 16777216) : lim n = some () := if_pos h
@[simp] theorem r_addI (i j : Int) : dAdd (.int i) (.int j) = some (.int (i + j)) := nr rfl
theorem r_addS {a b : List Nat} (h : a.length + b.length ≤ 16777216) : dAdd (.str a) (.str b) = some (.str (a ++ b)) := if_pos h
theorem r_addT {a b : List D} (h : a.length + b.length ≤ 16777216) : dAdd (.tup a) (.tup b) = some (.tup (a ++ b)) := if_pos h
theorem r_addL {a b : List D} (h : a.length + b.length ≤ 16777216) : dAdd (.lst a) (.lst b) = some (.lst (a ++ b)) := if_pos h
@[simp] theorem r_subI (i j : Int) : dSub (.int i) (.int j) = some (.int (i - j)) := nr rfl
theorem r_mulI {i j : Int} (h : L2.CMul i j) : dMul (.int i) (.int j) = some (.int (i * j)) := if_pos h
theorem r_divI {i j : Int} (h : L2.CDiv i j) : dDiv (.int i) (.int j) = some (.int (i / j)) := if_pos h
@[simp] theorem r_modI {i j : Int} (h : 0 < j) : dMod (.int i) (.int j) = some (.int (i % j)) := if_pos h
@[simp] theorem r_ltI (i j : Int) : dLT (.int i) (.int j) = some (.bl (decide (i < j))) := nr rfl
@[simp] theorem r_gtI (i j : Int) : dGT (.int i) (.int j) = some (.bl (decide (j < i))) := nr rfl
@[simp] theorem r_leI (i j : Int) : dLE (.int i) (.int j) = some (.bl (decide (i ≤ j))) := nr rfl
@[simp] theorem r_geI (i j : Int) : dGE (.int i) (.int j) = some (.bl (decide (j ≤ i))) := nr rfl
@[simp] theorem r_negI (i : Int) : dNeg (.int i) = some (.int (-i)) := nr rfl
@[simp] theorem r_ixL (xs : List D) (i : Int) : dIx (.lst xs) (.int i) = L2.atI xs i := nr rfl
@[simp] theorem r_ixT (xs : List D) (i : Int) : dIx (.tup xs) (.int i) = L2.atI xs i := nr rfl
@[simp] theorem r_lenL (xs : List D) : bLen [.lst xs] = some (.int xs.length) := nr rfl
@[simp] theorem r_lenT (xs : List D) : bLen [.tup xs] = some (.int xs.length) := nr rfl
theorem r_lenS {s : List Nat} (h : s.length ≤ 16777216) : bLen [.str s] = some (.int s.length) := if_pos h
@[simp] theorem r_intI (i : Int) : bInt [.int i] = some (.int i) := nr rfl
@[simp] theorem r_abs (i : Int) : bAbs [.int i] = some (.int (if i < 0 then -i else i)) := nr rfl
@[simp] theorem r_max2 (i j : Int) : bMax2 [.int i, .int j] = some (.int (if j > i then j else i)) := nr rfl
@[simp] theorem r_min2 (i j : Int) : bMin2 [.int i, .int j] = some (.int (if j < i then j else i)) := nr rfl
@[simp] theorem r_tupL (xs : List D) : bTup [.lst xs] = some (.tup xs) := nr rfl
@[simp] theorem r_tupT (xs : List D) : bTup [.tup xs] = some (.tup xs) := nr rfl
@[simp] theorem r_lstL (xs : List D) : bLst [.lst xs] = some (.lst xs) := nr rfl
@[simp] theorem r_lstT (xs : List D) : bLst [.tup xs] = some (.lst xs) := nr rfl
@[simp] theorem r_lstS (ns : List Int) : bLst [.scr ns] = some (.lst (ns.map D.int)) := nr rfl
@[simp] theorem r_trB (b : Bool) : truth (.bl b) = some b := nr rfl
@[simp] theorem r_trI (i : Int) : truth (.int i) = some (i != 0) := nr rfl
@[simp] theorem r_trN : truth .non = some false := nr rfl
@[simp] theorem r_isNN : dIs false .non .non = some (.bl true) := nr rfl
@[simp] theorem r_seqL (xs : List D) : seqOf (.val (.lst xs)) = some xs := nr rfl
@[simp] theorem r_seqT (xs : List D) : seqOf (.val (.tup xs)) = some xs := nr rfl
@[simp] theorem r_seqS (s : List Nat) : seqOf (.val (.str s)) = some (signs s) := nr rfl
@[simp] theorem r_slL (xs : List D) (l h : Option Int) : dSl (.lst xs) l h = some (.lst (cut xs l h)) := nr rfl
@[simp] theorem r_slT (xs : List D) (l h : Option Int) : dSl (.tup xs) l h = some (.tup (cut xs l h)) := nr rfl
@[simp] theorem r_revL (xs : List D) : dRev (.lst xs) = some (.lst xs.reverse) := nr rfl
@[simp] theorem r_revT (xs : List D) : dRev (.tup xs) = some (.tup xs.reverse) := nr rfl
@[simp] theorem r_plcOf (i : Nat) : plcOf (.plc i) = some i := nr rfl
@[simp] theorem r_outB (np : Nat) (d : D) (ρ : Env) : outB np [] d ρ = .ok (d, (ρ.take np).map fun o => o.getD .non) := nr rfl
@[simp] theorem r_outB1 (np : Nat) (d x : D) (ρ : Env) : outB np [0] d (some x :: ρ) = .ok (d, ((some x :: ρ).take np).map fun o => o.getD .non) := nr rfl
@[simp] theorem r_seqLst (xs : List D) : eApp.seqLst (.lst xs) = some () := nr rfl
theorem r_addTo {d : D} {ds : List D} (h : ds.length < 16777216) : addTo d (.lst ds) = some (.lst (ds ++ [d])) := if_pos h
theorem r_eApp (f g : SE) (ρ : Env) : eApp f g ρ = (f ρ >>= fun r => ofOpt (plcOf r.1) >>= fun i => ofOpt (gt r.2 i) >>= fun d0 => ofOpt (eApp.seqLst d0) >>= fun _ => g r.2 >>= fun r2 => ofOpt (valOf r2.1) >>= fun d => ofOpt (gt r2.2 i) >>= fun l => ofOpt (addTo d l) >>= fun l' => .ok (.val .non, st r2.2 i (some l'))) := nr rfl
@[simp] theorem r_sStL (f o i : SE) (ρ : Env) : sStL f o i ρ = (f ρ >>= fun r => ofOpt (valOf r.1) >>= fun d => o r.2 >>= fun r1 => ofOpt (plcOf r1.1) >>= fun s => i r1.2 >>= fun r2 => ofOpt (asI r2.1) >>= fun k => ofOpt (gt r2.2 s) >>= fun l => ofOpt (setAt k d l) >>= fun l' => .ok (.nx, st r2.2 s (some l'))) := nr rfl
theorem r_rng1 {j : Int} (h0 : 0 ≤ j) (h1 : j < 1000000) : rng1 [.int j] = some ((List.range j.toNat).map fun (i : Nat) => D.int i) := by
  have h : rin j = true := by
    unfold rin
    rw [decide_eq_true (by omega), decide_eq_true (by omega)]
    rfl
  show (bif rin j then some (rng 0 1 j.toNat) else none) = _
  rw [h]
  simp [rng]
theorem r_runB (n np : Nat) (bor : List Nat) (B : SS) (ds : List D) : runB n np bor B ds = (B (start0 n ds) >>= fun r => match r.1 with | .nx => outB np bor .non r.2 | .ret d => outB np bor d r.2 | _ => .stuck) := nr rfl
end EV

namespace EV
open PySem PySem.Spec L2 SX
open PyProof.Rows hiding St
variable {α : Type} {i j : Nat} {fi : Env → Res (List D × Env)} {cnd : Env → Res (Bool × Env)} {elt : SE} {ρ : Env}
/-- the slots inside a comprehension of one name -/
abbrev w1 (ρ : Env) (i : Nat) (d : D) : Env := st (wipeE ρ [i]) i (some d)
theorem fLc_map1 (ts : List α) (e f : α → D) (hi : fi ρ = .ok (ts.map e, ρ)) (hl : ts.length ≤ 16777216) (h : ∀ t, t ∈ ts → elt (w1 ρ i (e t)) = .ok (.val (f t), w1 ρ i (e t))) : fLc [i] fi (gNm i) cYes elt ρ = .ok (.lst (ts.map f), ρ) :=
  fLc_map ts e f hi hl fun t ht => ⟨_, rfl, (same_wipe [i] ρ).st (by simp), h t ht⟩
theorem fLc_flt1 (ts : List α) (e : α → D) (p : α → Bool) (f : α → D) (hi : fi ρ = .ok (ts.map e, ρ)) (hl : ts.length ≤ 16777216) (hc : ∀ t, t ∈ ts → cnd (w1 ρ i (e t)) = .ok (p t, w1 ρ i (e t))) (h : ∀ t, t ∈ ts → p t = true → elt (w1 ρ i (e t)) = .ok (.val (f t), w1 ρ i (e t))) : fLc [i] fi (gNm i) cnd elt ρ = .ok (.lst ((ts.filter p).map f), ρ) :=
  fLc_pure ts e p f hi hl fun t ht => ⟨_, rfl, (same_wipe [i] ρ).st (by simp), hc t ht, h t ht⟩
/-- .. of two names -/
abbrev w2 (ρ : Env) (i j : Nat) (a b : D) : Env := st (st (wipeE ρ [i, j]) i (some a)) j (some b)
abbrev g2 (i j : Nat) : D → Env → Res Env := gTupD 2 (gsCons (gNm i) (gsCons (gNm j) gsNil))
theorem g2_ok (a b : D) (ρ : Env) : g2 i j (.tup [a, b]) ρ = .ok (st (st ρ i (some a)) j (some b)) := rfl
theorem fLc_map2 (ts : List α) (a b f : α → D) (hi : fi ρ = .ok (ts.map (fun t => .tup [a t, b t]), ρ)) (hl : ts.length ≤ 16777216) (h : ∀ t, t ∈ ts → elt (w2 ρ i j (a t) (b t)) = .ok (.val (f t), w2 ρ i j (a t) (b t))) : fLc [i, j] fi (g2 i j) cYes elt ρ = .ok (.lst (ts.map f), ρ) :=
  fLc_map ts (fun t => .tup [a t, b t]) f hi hl fun t ht => ⟨_, g2_ok _ _ _, ((same_wipe [i, j] ρ).st (by simp)).st (by simp), h t ht⟩
theorem fLc_flt2 (ts : List α) (a b : α → D) (p : α → Bool) (f : α → D) (hi : fi ρ = .ok (ts.map (fun t => .tup [a t, b t]), ρ)) (hl : ts.length ≤ 16777216) (hc : ∀ t, t ∈ ts → cnd (w2 ρ i j (a t) (b t)) = .ok (p t, w2 ρ i j (a t) (b t))) (h : ∀ t, t ∈ ts → p t = true → elt (w2 ρ i j (a t) (b t)) = .ok (.val (f t), w2 ρ i j (a t) (b t))) : fLc [i, j] fi (g2 i j) cnd elt ρ = .ok (.lst ((ts.filter p).map f), ρ) :=
  fLc_pure ts (fun t => .tup [a t, b t]) p f hi hl fun t ht => ⟨_, g2_ok _ _ _, ((same_wipe [i, j] ρ).st (by simp)).st (by simp), hc t ht, h t ht⟩
theorem zipL_map (ts : List α) (a b : α → D) : zipL (ts.map a) (ts.map b) = ts.map fun t => .tup [a t, b t] := by
  induction ts with
  | nil => rfl
  | cons t ts ih => show D.tup [a t, b t] :: zipL (ts.map a) (ts.map b) = _; rw [ih]; rfl
theorem bls_map (p : α → Bool) : ∀ ts : List α, dBls (ts.map fun t => .bl (p t)) = some (ts.map p)
  | [] => rfl
  | t :: ts => by
    show (dBls (ts.map fun t => .bl (p t))).map (p t :: ·) = _
    rw [bls_map p ts]
    rfl
theorem all_map (p : α → Bool) (ts : List α) : bAll [.lst (ts.map fun t => .bl (p t))] = some (.bl (ts.all p)) := by
  show (dBls (ts.map fun t => .bl (p t))).map (fun bs => D.bl (bs.all id)) = _
  rw [bls_map]
  simp [List.all_map]
theorem in_sign (c : Nat) (s : List Nat) (k : Bool → Bool) : dIn k (.str [c]) (.str s) = some (.bl (k (decide (c ∈ s)))) := by
  show some (D.bl (k (strIn [c] s))) = _
  unfold strIn
  rw [in_one]
/-! small data -/
mutual
def D.sm : D → Bool
  | .tup xs => decide (xs.length ≤ 1000) && smL xs
  | .lst xs => decide (xs.length ≤ 1000) && smL xs
  | .str s => decide (s.length ≤ 1000)
  | .dk _ => false
  | .dt _ => false
  | .fn _ => false
  | .scr _ => false
  | _ => true
def smL : List D → Bool
  | [] => true
  | d :: r => d.sm && smL r
end
theorem smL_mem : ∀ {ds : List D}, smL ds = true → ∀ d, d ∈ ds → d.sm = true
  | [], _, _, h => nomatch h
  | x :: xs, h, d, hm => by
    have h' : (x.sm && smL xs) = true := h
    rw [Bool.and_eq_true] at h'
    rcases List.mem_cons.mp hm with rfl | hm
    · exact h'.1
    · exact smL_mem h'.2 d hm
theorem smL_of : ∀ {ds : List D}, (∀ d, d ∈ ds → d.sm = true) → smL ds = true
  | [], _ => rfl
  | x :: xs, h => by
    show (x.sm && smL xs) = true
    rw [h x List.mem_cons_self, smL_of fun d hd => h d (List.mem_cons_of_mem _ hd)]
    rfl
mutual
theorem sm_lay : ∀ d : D, d.sm = true → d.lay = true
  | .tup xs, h => by
    have h' : (decide (xs.length ≤ 1000) && smL xs) = true := h
    rw [Bool.and_eq_true] at h'
    exact smL_lay xs h'.2
  | .lst xs, h => by
    have h' : (decide (xs.length ≤ 1000) && smL xs) = true := h
    rw [Bool.and_eq_true] at h'
    exact smL_lay xs h'.2
  | .str _, _ => rfl
  | .non, _ => rfl
  | .bl _, _ => rfl
  | .int _, _ => rfl
  | .dk _, h => nomatch h
  | .dt _, h => nomatch h
  | .fn _, h => nomatch h
  | .scr _, h => nomatch h
theorem smL_lay : ∀ ds : List D, smL ds = true → layL ds = true
  | [], _ => rfl
  | x :: xs, h => by
    have h' : (x.sm && smL xs) = true := h
    rw [Bool.and_eq_true] at h'
    show (x.lay && layL xs) = true
    rw [sm_lay x h'.1, smL_lay xs h'.2]
    rfl
end
theorem sm_tup {xs : List D} (h : (D.tup xs).sm = true) : xs.length ≤ 1000 ∧ ∀ d, d ∈ xs → d.sm = true := by
  have h' : (decide (xs.length ≤ 1000) && smL xs) = true := h
  rw [Bool.and_eq_true, decide_eq_true_eq] at h'
  exact ⟨h'.1, smL_mem h'.2⟩
theorem sm_str {s : List Nat} (h : (D.str s).sm = true) : s.length ≤ 1000 := of_decide_eq_true h
/-- == [] -/
theorem eq_nilL (xs : List D) (h : layL xs = true) : dEq (.lst xs) (.lst []) = some (.bl xs.isEmpty) := by
  have : eqOk (.lst xs) (.lst []) = true := by
    show (layL xs && true && decide (min (depL xs + 1) 1 ≤ 64)) = true
    rw [h]
    simp
  show (if eqOk (.lst xs) (.lst []) = true then some (D.bl (eqvL xs [])) else none) = _
  rw [if_pos this]
  cases xs <;> rfl
end EV

namespace EV
open PySem PySem.Spec L2 SX
open PyProof.Rows hiding St
/-! ### running mirrors: what they come to, with all that is asked behind; simp never looks into what is asked -/
inductive Hid {α : Sort _} : α → Type
  | mk (a : α) : Hid a
def Wk {α : Type} (r : Res α) (Q : α → Prop) (_ : Hid Q := .mk Q) : Prop := ∃ a, r = .ok a ∧ Q a
/-- a fork -/
def Wf {α : Type} (c : Bool) (a b : Res α) (Q : α → Prop) (_ : Hid (a, b, Q) := .mk (a, b, Q)) : Prop := Wk (cond c a b) Q
section
variable {α β : Type}
/-- a thing that simp leaves as it is -/
def Hold (P : Prop) (_ : Hid P := .mk P) : Prop := P
theorem Hold.mk {P : Prop} {t : Hid P} (h : P) : Hold P t := h
theorem Wk.mono {r : Res α} {Q Q' : α → Prop} {t : Hid Q} {t' : Hid Q'} (h : Wk r Q t) (k : ∀ a, Q a → Q' a) : Wk r Q' t' := let ⟨a, e, q⟩ := h; ⟨a, e, k a q⟩
theorem Wk.eq {r : Res α} {a : α} {Q : α → Prop} {t : Hid Q} (h : r = .ok a) (q : Q a) : Wk r Q t := ⟨a, h, q⟩
theorem wk_of {r r' : Res α} {Q : α → Prop} {t : Hid Q} (h : r = r') : Wk r Q t = Wk r' Q t := by rw [h]
@[simp] theorem wk_ok (a : α) (Q : α → Prop) (t : Hid Q) : Wk (.ok a) Q t = Q a := propext ⟨fun ⟨b, h, q⟩ => by cases h; exact q, fun q => ⟨a, rfl, q⟩⟩
@[simp ↓] theorem wk_bind (x : Res α) (f : α → Res β) (Q : β → Prop) (t : Hid Q) : Wk (x >>= f) Q t = Wk x fun a => Wk (f a) Q t := by
  cases x with
  | ok a => simp only [ok_bind, wk_ok]
  | err c p => exact propext ⟨fun ⟨_, h, _⟩ => (nomatch h), fun ⟨_, h, _⟩ => (nomatch h)⟩
  | stuck => exact propext ⟨fun ⟨_, h, _⟩ => (nomatch h), fun ⟨_, h, _⟩ => (nomatch h)⟩
theorem wk_b {x : Res α} {f : α → Res β} {Q : β → Prop} {t : Hid Q} {R : α → Prop} {u : Hid R} (h : ∀ a, Wk (f a) Q t = R a) : Wk (x >>= f) Q t = Wk x R u := by
  rw [wk_bind]
  have : (fun a => Wk (f a) Q t) = R := funext h
  subst this
  rfl
theorem wk_b0 {x : Res α} {Q R : α → Prop} {t : Hid Q} {u : Hid R} (h : ∀ a, Q a = R a) : Wk x Q t = Wk x R u := by
  have : Q = R := funext h
  subst this
  rfl
@[simp ↓] theorem wk_cond (c : Bool) (a b : Res α) (Q : α → Prop) (t : Hid Q) : Wk (bif c then a else b) Q t = Wf c a b Q := nr rfl
@[simp] theorem wf_true (a b : Res α) (Q : α → Prop) (t : Hid (a, b, Q)) : Wf true a b Q t = Wk a Q := nr rfl
@[simp] theorem wf_false (a b : Res α) (Q : α → Prop) (t : Hid (a, b, Q)) : Wf false a b Q t = Wk b Q := nr rfl
theorem Wf.of {c : Bool} {a b : Res α} {Q : α → Prop} {t : Hid (a, b, Q)} (h1 : c = true → Wk a Q) (h2 : c = false → Wk b Q) : Wf c a b Q t := by
  cases c
  · exact h2 rfl
  · exact h1 rfl
theorem wk_some {o : Option α} {a : α} {Q : α → Prop} {t : Hid Q} (h : o = some a) (q : Q a) : Wk (ofOpt o) Q t := ⟨a, by rw [h]; rfl, q⟩
theorem Wk.ok_iff {r : Res α} {a : α} : (Wk r fun x => x = a) ↔ r = .ok a := ⟨fun ⟨b, h, q⟩ => by rw [← q]; exact h, fun h => ⟨a, h, rfl⟩⟩
end
/-- what a def gives, without what it hands back -/
def FS.v (F : FS) (ds : List D) : Res D := F.m ds >>= fun o => .ok o.1
def shV (b : Bool) (r : Res D) : Res D := r >>= fun d => bif b || d.flat then .ok d else .stuck
theorem Val.v {F : FS} {ds : List D} {d : D} (h : Val F ds d) : F.v ds = .ok d := by
  obtain ⟨o, e⟩ := h
  unfold FS.v
  rw [e]
  rfl
theorem v_val {F : FS} {ds : List D} {d : D} (h : F.v ds = .ok d) : Val F ds d := by
  unfold FS.v at h
  unfold Val
  cases q : F.m ds with
  | ok o =>
    rw [q] at h
    have h' : Res.ok o.1 = Res.ok d := h
    injection h' with h'
    subst h'
    exact ⟨o.2, rfl⟩
  | err c p => rw [q] at h; cases h
  | stuck => rw [q] at h; cases h
theorem Wk.v {F : FS} {ds : List D} {d : D} (h : Wk (F.m ds) fun r => r.1 = d) : F.v ds = .ok d := by
  obtain ⟨⟨a, o⟩, e, rfl⟩ := h
  exact Val.v ⟨o, e⟩
theorem Wk.v' {F : FS} {ds : List D} {P : D → Prop} (h : Wk (F.m ds) fun r => P r.1) : ∃ d, F.v ds = .ok d ∧ P d := by
  obtain ⟨⟨a, o⟩, e, p⟩ := h
  exact ⟨a, Val.v ⟨o, e⟩, p⟩
theorem wk_v (F : FS) (ds : List D) (Q : D → Prop) (t : Hid Q) : Wk (F.v ds) Q t = Wk (F.m ds) fun o => Q o.1 := by
  unfold FS.v
  exact wk_b fun o => wk_ok _ _ _
variable {ρ : Env} {Q : DV × Env → Prop} {t : Hid Q} {Qb : Bool × Env → Prop} {tb : Hid Qb} {Qs : Fl × Env → Prop} {ts : Hid Qs} {Qd : D × Env → Prop} {td : Hid Qd} {Qa : List DV × Env → Prop} {ta : Hid Qa} {Ql : List D × Env → Prop} {tl : Hid Ql} {Qe : Env → Prop} {te : Hid Qe} {Qo : D × List D → Prop} {to : Hid Qo} {Qp : Option Int × Env → Prop} {tp : Hid Qp} {Qq : List (Bool × D) × Env → Prop} {tq : Hid Qq} {Qr : D → Prop} {tr : Hid Qr} {Qu : Unit → Prop} {tu : Hid Qu}
@[simp] theorem wk_shT (r : Res D) : shV true r = r := by cases r <;> rfl
@[simp] theorem wk_shOk (b : Bool) (d : D) : shV b (.ok d) = bif b || d.flat then .ok d else .stuck := nr rfl
@[simp ↓] theorem wk_eC (d : D) : Wk (eC d ρ) Q t = Q (.val d, ρ) := by rw [r_eC, wk_ok]
@[simp ↓] theorem wk_eVar (i : Nat) : Wk (eVar i ρ) Q t = Wk (ofOpt (gt ρ i)) fun d => Q (.val d, ρ) := by rw [r_eVar]; repeat' (first | exact wk_ok _ _ _ | exact wk_cond _ _ _ _ _ | refine wk_b fun _ => ?_)
@[simp ↓] theorem wk_ePlc (i : Nat) : Wk (ePlc i ρ) Q t = Wk (ofOpt (gt ρ i)) fun _ => Q (.plc i, ρ) := by rw [r_ePlc]; repeat' (first | exact wk_ok _ _ _ | exact wk_cond _ _ _ _ _ | refine wk_b fun _ => ?_)
@[simp ↓] theorem wk_eBin (g : D → D → Option D) (f1 f2 : SE) : Wk (eBin g f1 f2 ρ) Q t = Wk (f1 ρ) fun r1 => Wk (f2 r1.2) fun r2 => Wk (deref r2.2 r1.1) fun d1 => Wk (deref r2.2 r2.1) fun d2 => Wk (ofOpt (g d1 d2)) fun d => Q (.val d, r2.2) := by rw [r_eBin]; repeat' (first | exact wk_ok _ _ _ | exact wk_cond _ _ _ _ _ | refine wk_b fun _ => ?_)
@[simp ↓] theorem wk_eUn (g : D → Option D) (f1 : SE) : Wk (eUn g f1 ρ) Q t = Wk (f1 ρ) fun r1 => Wk (deref r1.2 r1.1) fun d1 => Wk (ofOpt (g d1)) fun d => Q (.val d, r1.2) := by rw [r_eUn]; repeat' (first | exact wk_ok _ _ _ | exact wk_cond _ _ _ _ _ | refine wk_b fun _ => ?_)
@[simp ↓] theorem wk_tB (f : SE) : Wk (tB f ρ) Qb tb = Wk (f ρ) fun r => Wk (ofOpt (asB r.1)) fun k => Qb (k, r.2) := by rw [r_tB]; repeat' (first | exact wk_ok _ _ _ | exact wk_cond _ _ _ _ _ | refine wk_b fun _ => ?_)
@[simp ↓] theorem wk_tTru (f : SE) : Wk (tTru f ρ) Qb tb = Wk (f ρ) fun r => Wk (deref r.2 r.1) fun d => Wk (ofOpt (truth d)) fun k => Qb (k, r.2) := by rw [r_tTru]; repeat' (first | exact wk_ok _ _ _ | exact wk_cond _ _ _ _ _ | refine wk_b fun _ => ?_)
@[simp ↓] theorem wk_tNot (f : Env → Res (Bool × Env)) : Wk (tNot f ρ) Qb tb = Wk (f ρ) fun r => Qb (!r.1, r.2) := by rw [r_tNot]; repeat' (first | exact wk_ok _ _ _ | exact wk_cond _ _ _ _ _ | refine wk_b fun _ => ?_)
@[simp ↓] theorem wk_tAnd (f g : Env → Res (Bool × Env)) : Wk (tAnd f g ρ) Qb tb = Wk (f ρ) fun r => Wf r.1 (g r.2) (.ok (false, r.2)) Qb := by rw [r_tAnd]; repeat' (first | exact wk_ok _ _ _ | exact wk_cond _ _ _ _ _ | refine wk_b fun _ => ?_)
@[simp ↓] theorem wk_tOr (f g : Env → Res (Bool × Env)) : Wk (tOr f g ρ) Qb tb = Wk (f ρ) fun r => Wf r.1 (.ok (true, r.2)) (g r.2) Qb := by rw [r_tOr]; repeat' (first | exact wk_ok _ _ _ | exact wk_cond _ _ _ _ _ | refine wk_b fun _ => ?_)
@[simp ↓] theorem wk_eAnd (f g : SE) : Wk (eAnd f g ρ) Q t = Wk (f ρ) fun r => Wk (ofOpt (asB r.1)) fun k => Wf k (g r.2) (.ok (.val (.bl false), r.2)) Q := by rw [r_eAnd]; repeat' (first | exact wk_ok _ _ _ | exact wk_cond _ _ _ _ _ | refine wk_b fun _ => ?_)
@[simp ↓] theorem wk_eOr (f g : SE) : Wk (eOr f g ρ) Q t = Wk (f ρ) fun r => Wk (ofOpt (asB r.1)) fun k => Wf k (.ok (.val (.bl true), r.2)) (g r.2) Q := by rw [r_eOr]; repeat' (first | exact wk_ok _ _ _ | exact wk_cond _ _ _ _ _ | refine wk_b fun _ => ?_)
@[simp ↓] theorem wk_eNot (f : SE) : Wk (eNot f ρ) Q t = Wk (f ρ) fun r => Wk (ofOpt (asB r.1)) fun k => Q (.val (.bl (!k)), r.2) := by rw [r_eNot]; repeat' (first | exact wk_ok _ _ _ | exact wk_cond _ _ _ _ _ | refine wk_b fun _ => ?_)
@[simp ↓] theorem wk_eIf (c : Env → Res (Bool × Env)) (f g : SE) : Wk (eIf c f g ρ) Q t = Wk (c ρ) fun r => Wf r.1 (f r.2) (g r.2) Q := by rw [r_eIf]; repeat' (first | exact wk_ok _ _ _ | exact wk_cond _ _ _ _ _ | refine wk_b fun _ => ?_)
@[simp ↓] theorem wk_eChain (g g' : D → D → Option D) (f1 f2 f3 : SE) : Wk (eChain g g' f1 f2 f3 ρ) Q t = Wk (f1 ρ) fun r1 => Wk (f2 r1.2) fun r2 => Wk (deref r2.2 r1.1) fun d1 => Wk (deref r2.2 r2.1) fun d2 => Wk (ofOpt (g d1 d2)) fun d => Wk (ofOpt (asB (.val d))) fun k =>
  Wf k (f3 r2.2 >>= fun r3 => deref r3.2 r2.1 >>= fun d2' => deref r3.2 r3.1 >>= fun d3 => ofOpt (g' d2' d3) >>= fun d' => .ok (.val d', r3.2)) (.ok (.val (.bl false), r2.2)) Q := by rw [r_eChain]; repeat' (first | exact wk_ok _ _ _ | exact wk_cond _ _ _ _ _ | refine wk_b fun _ => ?_)
@[simp ↓] theorem wk_aNil : Wk (aNil ρ) Qa ta = Qa ([], ρ) := by rw [r_aNil, wk_ok]
@[simp ↓] theorem wk_aCons (f : SE) (fs : Env → Res (List DV × Env)) : Wk (aCons f fs ρ) Qa ta = Wk (f ρ) fun r1 => Wk (fs r1.2) fun r2 => Qa (r1.1 :: r2.1, r2.2) := by rw [r_aCons]; repeat' (first | exact wk_ok _ _ _ | exact wk_cond _ _ _ _ _ | refine wk_b fun _ => ?_)
@[simp ↓] theorem wk_eTup (fs : Env → Res (List DV × Env)) : Wk (eTup fs ρ) Q t = Wk (fs ρ) fun r => Wk (ofOpt (vals r.1)) fun ds => Wk (ofOpt (lim ds.length)) fun _ => Q (.val (.tup ds), r.2) := by rw [r_eTup]; repeat' (first | exact wk_ok _ _ _ | exact wk_cond _ _ _ _ _ | refine wk_b fun _ => ?_)
@[simp ↓] theorem wk_fLst (fs : Env → Res (List DV × Env)) : Wk (fLst fs ρ) Qd td = Wk (fs ρ) fun r => Wk (ofOpt (vals r.1)) fun ds => Wk (ofOpt (lim ds.length)) fun _ => Qd (.lst ds, r.2) := by rw [r_fLst]; repeat' (first | exact wk_ok _ _ _ | exact wk_cond _ _ _ _ _ | refine wk_b fun _ => ?_)
@[simp ↓] theorem wk_eF (f : Env → Res (D × Env)) : Wk (eF f ρ) Q t = Wk (f ρ) fun r => Q (.val r.1, r.2) := by rw [r_eF]; repeat' (first | exact wk_ok _ _ _ | exact wk_cond _ _ _ _ _ | refine wk_b fun _ => ?_)
@[simp ↓] theorem wk_fBin (g : D → D → Option D) (f1 f2 : SE) : Wk (fBin g f1 f2 ρ) Qd td = Wk (f1 ρ) fun r1 => Wk (f2 r1.2) fun r2 => Wk (deref r2.2 r1.1) fun d1 => Wk (deref r2.2 r2.1) fun d2 => Wk (ofOpt (g d1 d2)) fun d => Qd (d, r2.2) := by rw [r_fBin]; repeat' (first | exact wk_ok _ _ _ | exact wk_cond _ _ _ _ _ | refine wk_b fun _ => ?_)
@[simp ↓] theorem wk_eBlt (g : List D → Option D) (fs : Env → Res (List DV × Env)) : Wk (eBlt g fs ρ) Q t = Wk (fs ρ) fun r => Wk (ofOpt (rdA r.2 r.1)) fun ds => Wk (ofOpt (g ds)) fun d => Q (.val d, r.2) := by rw [r_eBlt]; repeat' (first | exact wk_ok _ _ _ | exact wk_cond _ _ _ _ _ | refine wk_b fun _ => ?_)
@[simp ↓] theorem wk_fBlt (g : List D → Option D) (fs : Env → Res (List DV × Env)) : Wk (fBlt g fs ρ) Qd td = Wk (fs ρ) fun r => Wk (ofOpt (rdA r.2 r.1)) fun ds => Wk (ofOpt (g ds)) fun d => Qd (d, r.2) := by rw [r_fBlt]; repeat' (first | exact wk_ok _ _ _ | exact wk_cond _ _ _ _ _ | refine wk_b fun _ => ?_)
@[simp ↓] theorem wk_eIsi (k : Nat) (f : SE) : Wk (eIsi k f ρ) Q t = Wk (f ρ) fun r => Wk (deref r.2 r.1) fun d => Wk (ofOpt (isD k d)) fun b => Q (.val (.bl b), r.2) := by rw [r_eIsi]; repeat' (first | exact wk_ok _ _ _ | exact wk_cond _ _ _ _ _ | refine wk_b fun _ => ?_)
@[simp ↓] theorem wk_bNil : Wk (bNil ρ) Qs ts = Qs (.nx, ρ) := by rw [r_bNil, wk_ok]
/-- behind a statement -/
def bNext (g : SS) (r : Fl × Env) : Res (Fl × Env) := match r.1 with
  | .nx => g r.2
  | fl => .ok (fl, r.2)
@[simp] theorem bNext_nx (g : SS) (ρ : Env) : bNext g (.nx, ρ) = g ρ := nr rfl
@[simp] theorem bNext_ret (g : SS) (d : D) (ρ : Env) : bNext g (.ret d, ρ) = .ok (.ret d, ρ) := nr rfl
@[simp] theorem bNext_brk (g : SS) (ρ : Env) : bNext g (.brk, ρ) = .ok (.brk, ρ) := nr rfl
@[simp] theorem bNext_cont (g : SS) (ρ : Env) : bNext g (.cont, ρ) = .ok (.cont, ρ) := nr rfl
@[simp ↓] theorem wk_next_nx (g : SS) (ρ : Env) : Wk (bNext g (.nx, ρ)) Qs ts = Wk (g ρ) Qs ts := nr rfl
@[simp ↓] theorem wk_next_ret (g : SS) (d : D) (ρ : Env) : Wk (bNext g (.ret d, ρ)) Qs ts = Qs (.ret d, ρ) := by rw [bNext_ret, wk_ok]
@[simp ↓] theorem wk_next_brk (g : SS) (ρ : Env) : Wk (bNext g (.brk, ρ)) Qs ts = Qs (.brk, ρ) := by rw [bNext_brk, wk_ok]
@[simp ↓] theorem wk_next_cont (g : SS) (ρ : Env) : Wk (bNext g (.cont, ρ)) Qs ts = Qs (.cont, ρ) := by rw [bNext_cont, wk_ok]
@[simp ↓] theorem wk_bCons (f g : SS) : Wk (bCons f g ρ) Qs ts = Wk (f ρ) fun r => Wk (bNext g r) Qs ts := by
  rw [r_bCons, wk_bind]
  rfl
@[simp ↓] theorem wk_sRet (f : SE) : Wk (sRet f ρ) Qs ts = Wk (f ρ) fun r => Wk (ofOpt (valOf r.1)) fun d => Qs (.ret d, r.2) := by rw [r_sRet]; repeat' (first | exact wk_ok _ _ _ | exact wk_cond _ _ _ _ _ | refine wk_b fun _ => ?_)
@[simp ↓] theorem wk_sRetN : Wk (sRetN ρ) Qs ts = Qs (.ret .non, ρ) := wk_ok _ _ _
@[simp ↓] theorem wk_sExpr (f : SE) : Wk (sExpr f ρ) Qs ts = Wk (f ρ) fun r => Qs (.nx, r.2) := by rw [r_sExpr]; repeat' (first | exact wk_ok _ _ _ | exact wk_cond _ _ _ _ _ | refine wk_b fun _ => ?_)
@[simp ↓] theorem wk_sBrk : Wk (sBrk ρ) Qs ts = Qs (.brk, ρ) := wk_ok _ _ _
@[simp ↓] theorem wk_sCont : Wk (sCont ρ) Qs ts = Qs (.cont, ρ) := wk_ok _ _ _
@[simp ↓] theorem wk_sIf (c : Env → Res (Bool × Env)) (f g : SS) : Wk (sIf c f g ρ) Qs ts = Wk (c ρ) fun r => Wf r.1 (f r.2) (g r.2) Qs := by rw [r_sIf]; repeat' (first | exact wk_ok _ _ _ | exact wk_cond _ _ _ _ _ | refine wk_b fun _ => ?_)
@[simp ↓] theorem wk_sSet (i : Nat) (f : SE) : Wk (sSet i f ρ) Qs ts = Wk (f ρ) fun r => Wk (ofOpt (valOf r.1)) fun d => Qs (.nx, st r.2 i (some d)) := by rw [r_sSet]; repeat' (first | exact wk_ok _ _ _ | exact wk_cond _ _ _ _ _ | refine wk_b fun _ => ?_)
@[simp ↓] theorem wk_sSetF (i : Nat) (f : Env → Res (D × Env)) : Wk (sSetF i f ρ) Qs ts = Wk (f ρ) fun r => Qs (.nx, st r.2 i (some r.1)) := by rw [r_sSetF]; repeat' (first | exact wk_ok _ _ _ | exact wk_cond _ _ _ _ _ | refine wk_b fun _ => ?_)
@[simp ↓] theorem wk_gNm (i : Nat) (d : D) : Wk (gNm i d ρ) Qe te = Qe (st ρ i (some d)) := by rw [r_gNm, wk_ok]
@[simp ↓] theorem wk_noErr {α : Type} (r : Res α) (Q : α → Prop) (t : Hid Q) : Wk (noErr r) Q t = Wk r Q t := by
  cases r with
  | ok a => rfl
  | err c p => exact propext ⟨fun ⟨_, h, _⟩ => (nomatch h), fun ⟨_, h, _⟩ => (nomatch h)⟩
  | stuck => rfl
@[simp ↓] theorem wk_pNone : Wk (pNone ρ) Qp tp = Qp (none, ρ) := by rw [r_pNone, wk_ok]
@[simp ↓] theorem wk_pSome (f : SE) : Wk (pSome f ρ) Qp tp = Wk (f ρ) fun r => Wk (ofOpt (asI r.1)) fun i => Qp (some i, r.2) := by rw [r_pSome]; repeat' (first | exact wk_ok _ _ _ | exact wk_cond _ _ _ _ _ | refine wk_b fun _ => ?_)
@[simp ↓] theorem wk_eSl (f : SE) (fl fh : Env → Res (Option Int × Env)) : Wk (eSl f fl fh ρ) Q t = Wk (f ρ) fun r => Wk (fl r.2) fun l => Wk (fh l.2) fun h => Wk (deref h.2 r.1) fun d => Wk (ofOpt (dSl d l.1 h.1)) fun d' => Q (.val d', h.2) := by rw [r_eSl]; repeat' (first | exact wk_ok _ _ _ | exact wk_cond _ _ _ _ _ | refine wk_b fun _ => ?_)
@[simp ↓] theorem wk_iSeq (f : SE) : Wk (iSeq f ρ) Ql tl = Wk (f ρ) fun r => Wk (ofOpt (seqOf r.1)) fun ds => Ql (ds, r.2) := by rw [r_iSeq]; repeat' (first | exact wk_ok _ _ _ | exact wk_cond _ _ _ _ _ | refine wk_b fun _ => ?_)
@[simp ↓] theorem wk_iRng (k : List D → Option (List D)) (fs : Env → Res (List DV × Env)) : Wk (iRng k fs ρ) Ql tl = Wk (fs ρ) fun r => Wk (ofOpt (vals r.1)) fun ds => Wk (ofOpt (k ds)) fun xs => Ql (xs, r.2) := by rw [r_iRng]; repeat' (first | exact wk_ok _ _ _ | exact wk_cond _ _ _ _ _ | refine wk_b fun _ => ?_)
@[simp ↓] theorem wk_sFor (fi : Env → Res (List D × Env)) (g : D → Env → Res Env) (B : SS) : Wk (sFor fi g B ρ) Qs ts = Wk (fi ρ) fun r => Wk (forL g B r.1 r.2) Qs := by rw [r_sFor]; exact wk_b fun r => by cases ts; rfl
@[simp ↓] theorem wk_bFrz (i : Nat) (f : SS) : Wk (bFrz i f ρ) Qs ts = Wk (gd (isLive i ρ)) fun _ => Wk (f ρ) fun r => Qs (r.1, st r.2 i none) := by rw [r_bFrz]; repeat' (first | exact wk_ok _ _ _ | exact wk_cond _ _ _ _ _ | refine wk_b fun _ => ?_)
@[simp] theorem q_live (i : Nat) (ρ : Env) : isLive i ρ = (gt ρ i).isSome := nr rfl
@[simp ↓] theorem wk_sAsgN (g : D → Env → Res Env) (f : SE) : Wk (sAsgN g f ρ) Qs ts = Wk (f ρ) fun r => Wk (ofOpt (valOf r.1)) fun d => Wk (g d r.2) fun ρ' => Qs (.nx, ρ') := by
  rw [r_sAsgN]
  refine wk_b fun r => wk_b fun d => ?_
  rw [wk_bind, wk_noErr]
  exact wk_b0 fun _ => wk_ok _ _ _
@[simp ↓] theorem wk_qNil : Wk (qNil ρ) Qq tq = Qq ([], ρ) := by rw [r_qNil, wk_ok]
@[simp ↓] theorem wk_qVal (f : SE) (fs : Env → Res (List (Bool × D) × Env)) : Wk (qVal f fs ρ) Qq tq = Wk (f ρ) fun r1 => Wk (ofOpt (valOf r1.1)) fun d => Wk (fs r1.2) fun r2 => Qq ((false, d) :: r2.1, r2.2) := by rw [r_qVal]; repeat' (first | exact wk_ok _ _ _ | exact wk_cond _ _ _ _ _ | refine wk_b fun _ => ?_)
@[simp ↓] theorem wk_qNew (f : Env → Res (D × Env)) (fs : Env → Res (List (Bool × D) × Env)) : Wk (qNew f fs ρ) Qq tq = Wk (f ρ) fun r1 => Wk (fs r1.2) fun r2 => Qq ((true, r1.1) :: r2.1, r2.2) := by rw [r_qNew]; repeat' (first | exact wk_ok _ _ _ | exact wk_cond _ _ _ _ _ | refine wk_b fun _ => ?_)
@[simp ↓] theorem wk_sPar (is : List (Nat × Bool)) (fq : Env → Res (List (Bool × D) × Env)) : Wk (sPar is fq ρ) Qs ts = Wk (fq ρ) fun r => Wk (ofOpt (stsQ r.2 is r.1)) fun ρ' => Qs (.nx, ρ') := by rw [r_sPar]; repeat' (first | exact wk_ok _ _ _ | exact wk_cond _ _ _ _ _ | refine wk_b fun _ => ?_)
@[simp ↓] theorem wk_sStL (f o i : SE) : Wk (sStL f o i ρ) Qs ts = Wk (f ρ) fun r => Wk (ofOpt (valOf r.1)) fun d => Wk (o r.2) fun r1 => Wk (ofOpt (plcOf r1.1)) fun s => Wk (i r1.2) fun r2 => Wk (ofOpt (asI r2.1)) fun k => Wk (ofOpt (gt r2.2 s)) fun l => Wk (ofOpt (setAt k d l)) fun l' => Qs (.nx, st r2.2 s (some l')) := by rw [r_sStL]; repeat' (first | exact wk_ok _ _ _ | exact wk_cond _ _ _ _ _ | refine wk_b fun _ => ?_)
@[simp ↓] theorem wk_eApp (f g : SE) : Wk (eApp f g ρ) Q t = Wk (f ρ) fun r => Wk (ofOpt (plcOf r.1)) fun i => Wk (ofOpt (gt r.2 i)) fun d0 => Wk (ofOpt (eApp.seqLst d0)) fun _ => Wk (g r.2) fun r2 => Wk (ofOpt (valOf r2.1)) fun d => Wk (ofOpt (gt r2.2 i)) fun l => Wk (ofOpt (addTo d l)) fun l' => Q (.val .non, st r2.2 i (some l')) := by rw [r_eApp]; repeat' (first | exact wk_ok _ _ _ | exact wk_cond _ _ _ _ _ | refine wk_b fun _ => ?_)
theorem shield_v (b : Bool) (F : FS) (ds : List D) (Q : D → Prop) : (Wk (shield b (F.m ds)) fun o => Q o.1) = Wk (shV b (F.v ds)) Q := by
  unfold FS.v shV
  cases F.m ds with
  | err c p =>
    refine propext ⟨fun ⟨_, h, _⟩ => ?_, fun ⟨_, h, _⟩ => (nomatch h)⟩
    have h' : (bif b || p.flat then .err c p else .stuck : Res (D × List D)) = _ := h
    cases hc : (b || p.flat) <;> rw [hc] at h' <;> cases h'
  | stuck => exact propext ⟨fun ⟨_, h, _⟩ => (nomatch h), fun ⟨_, h, _⟩ => (nomatch h)⟩
  | ok o =>
    show (Wk (bif b || o.1.flat then .ok o else .stuck : Res (D × List D)) fun o => Q o.1) = Wk (bif b || o.1.flat then .ok o.1 else .stuck : Res D) Q
    cases hc : (b || o.1.flat)
    · exact propext ⟨fun ⟨_, h, _⟩ => (nomatch h), fun ⟨_, h, _⟩ => (nomatch h)⟩
    · show Wk (.ok o) _ = Wk (.ok o.1) _
      rw [wk_ok, wk_ok]
@[simp ↓] theorem wk_eCall (F : FS) (fs : Env → Res (List DV × Env)) : Wk (eCall F fs ρ) Q t = Wk (fs ρ) fun r => Wk (ofOpt (rdA r.2 r.1)) fun ds => Wk (gd (decide (ds.length = F.np))) fun _ => Wk (shV (noPl r.1) (F.v ds)) fun d => Q (.val d, r.2) := by
  rw [r_eCall]
  refine wk_b fun r => wk_b fun ds => wk_b fun _ => ?_
  rw [wk_bind]
  exact (wk_b0 fun _ => wk_ok _ _ _).trans (shield_v (noPl r.1) F ds fun d => Q (.val d, r.2))
@[simp ↓] theorem wk_eCallC (F : FS) (fs : Env → Res (List DV × Env)) : Wk (eCallC F fs ρ) Q t = Wk (fs ρ) fun r => Wk (ofOpt (lentOf r.1)) fun l => Wk (ofOpt (gt r.2 l.1)) fun d0 => Wk (ofOpt (rdA r.2 l.2)) fun ds => Wk (gd (decide (ds.length + 1 = F.np))) fun _ => Wk (gd (!hasPl l.1 l.2)) fun _ =>
  Wk (shield (noPl l.2) (F.m (d0 :: ds))) fun o => Wk (ofOpt (okLent (noPl l.2) o.2)) fun d => Q (.val o.1, st r.2 l.1 (some d)) := by rw [r_eCallC]; repeat' (first | exact wk_ok _ _ _ | exact wk_cond _ _ _ _ _ | refine wk_b fun _ => ?_)
@[simp ↓] theorem wk_fCall (F : FF) (fs : Env → Res (List DV × Env)) : Wk (fCall F fs ρ) Qd td = Wk (fs ρ) fun r => Wk (ofOpt (vals r.1)) fun ds => Wk (gd (decide (ds.length = F.np))) fun _ => Wk (F.m ds) fun d => Qd (d, r.2) := by
  have e : fCall F fs ρ = (fs ρ >>= fun r => ofOpt (vals r.1) >>= fun ds => gd (decide (ds.length = F.np)) >>= fun _ => F.m ds >>= fun d => .ok (d, r.2)) := rfl
  rw [e]; repeat' (first | exact wk_ok _ _ _ | exact wk_cond _ _ _ _ _ | refine wk_b fun _ => ?_)
@[simp ↓] theorem wk_eCall0 (F : FS) : Wk (eCall0 F ρ) Q t = Wk (gd (decide (F.np = 0))) fun _ => Wk (F.v []) fun d => Q (.val d, ρ) := by
  have e : eCall0 F ρ = (gd (decide (F.np = 0)) >>= fun _ => noErr0 (F.m []) >>= fun d => .ok (.val d, ρ)) := rfl
  rw [e]
  refine wk_b fun _ => ?_
  rw [wk_v, wk_bind]
  cases F.m [] with
  | ok o => show Wk (.ok o.1) _ = _; rw [wk_ok, wk_ok, wk_ok]
  | err c p => exact propext ⟨fun ⟨_, h, _⟩ => (nomatch h), fun ⟨_, h, _⟩ => (nomatch h)⟩
  | stuck => exact propext ⟨fun ⟨_, h, _⟩ => (nomatch h), fun ⟨_, h, _⟩ => (nomatch h)⟩
@[simp ↓] theorem wk_eJoin (f g : SE) : Wk (eJoin f g ρ) Q t = Wk (f ρ) fun r => Wk (ofOpt (asS r.1)) fun s => Wk (g r.2) fun r2 => Wk (deref r2.2 r2.1) fun d => Wk (ofOpt (dJoin (.str s) d)) fun d' => Q (.val d', r2.2) := by
  have e : eJoin f g ρ = (f ρ >>= fun r => ofOpt (asS r.1) >>= fun s => g r.2 >>= fun r2 => deref r2.2 r2.1 >>= fun d => ofOpt (dJoin (.str s) d) >>= fun d' => .ok (.val d', r2.2)) := rfl
  rw [e]; repeat' (first | exact wk_ok _ _ _ | exact wk_cond _ _ _ _ _ | refine wk_b fun _ => ?_)
@[simp] theorem q_asS (s : List Nat) : asS (.val (.str s)) = some s := nr rfl
/-- the end of a body -/
def endB (np : Nat) (bor : List Nat) (r : Fl × Env) : Res (D × List D) := match r.1 with
  | .nx => outB np bor .non r.2
  | .ret d => outB np bor d r.2
  | _ => .stuck
@[simp] theorem endB_nx (np : Nat) (bor : List Nat) (ρ : Env) : endB np bor (.nx, ρ) = outB np bor .non ρ := nr rfl
@[simp] theorem endB_ret (np : Nat) (bor : List Nat) (d : D) (ρ : Env) : endB np bor (.ret d, ρ) = outB np bor d ρ := nr rfl
@[simp ↓] theorem wk_runB (n np : Nat) (bor : List Nat) (B : SS) (ds : List D) : Wk (runB n np bor B ds) Qo to = Wk (B (start0 n ds)) fun r => Wk (endB np bor r) Qo to := by
  have e : runB n np bor B ds = (B (start0 n ds) >>= fun r => endB np bor r) := rfl
  rw [e, wk_bind]
def endF (r : D × Env) : D := r.1
@[simp ↓] theorem wk_runBF (n : Nat) (B : Env → Res (D × Env)) (ds : List D) : Wk (runBF n B ds) Qr tr = Wk (B (start0 n ds)) fun r => Qr r.1 := by
  have e : runBF n B ds = (B (start0 n ds) >>= fun r => .ok r.1) := rfl
  rw [e]; repeat' (first | exact wk_ok _ _ _ | exact wk_cond _ _ _ _ _ | refine wk_b fun _ => ?_)
def fNext (g : Env → Res (D × Env)) (r : Fl × Env) : Res (D × Env) := match r.1 with
  | .nx => g r.2
  | _ => .stuck
@[simp ↓] theorem wk_fNext (g : Env → Res (D × Env)) (ρ : Env) : Wk (fNext g (.nx, ρ)) Qd td = Wk (g ρ) Qd td := nr rfl
@[simp ↓] theorem wk_fSeq (f : SS) (g : Env → Res (D × Env)) : Wk (fSeq f g ρ) Qd td = Wk (f ρ) fun r => Wk (fNext g r) Qd td := by
  have e : fSeq f g ρ = (f ρ >>= fun r => fNext g r) := rfl
  rw [e, wk_bind]
@[simp] theorem q_start0 (n : Nat) (ds : List D) : start0 n ds = ds.map some ++ List.replicate (n - ds.length) none := nr rfl
/-- a comprehension behind what it runs over -/
def lcR (vs : List Nat) (g : D → Env → Res Env) (cnd : Env → Res (Bool × Env)) (elt : SE) (xs : List D) (ρ : Env) : Res (D × Env) := lcL vs g cnd elt xs ρ >>= fun r2 => .ok (.lst r2.1, restE ρ r2.2 vs)
@[simp ↓] theorem wk_fLc (vs : List Nat) (fi : Env → Res (List D × Env)) (g : D → Env → Res Env) (cnd : Env → Res (Bool × Env)) (elt : SE) : Wk (fLc vs fi g cnd elt ρ) Qd td = Wk (fi ρ) fun r => Wk (ofOpt (lim r.1.length)) fun _ => Wk (lcR vs g cnd elt r.1 r.2) Qd td := by
  have e : fLc vs fi g cnd elt ρ = (fi ρ >>= fun r => ofOpt (lim r.1.length) >>= fun _ => lcR vs g cnd elt r.1 r.2) := rfl
  rw [e]
  exact wk_b fun r => wk_b fun _ => rfl
@[simp] theorem q_wipe0 : wipeE ρ [] = ρ := nr rfl
@[simp] theorem q_wipeS (i : Nat) (vs : List Nat) : wipeE ρ (i :: vs) = st (wipeE ρ vs) i none := nr rfl
@[simp] theorem q_rest0 (ρ2 : Env) : restE ρ ρ2 [] = ρ2 := nr rfl
@[simp] theorem q_restS (ρ2 : Env) (i : Nat) (vs : List Nat) : restE ρ ρ2 (i :: vs) = st (restE ρ ρ2 vs) i (gt ρ i) := nr rfl
@[simp ↓] theorem wk_gTupD (n : Nat) (gs : List D → Env → Res Env) (ds : List D) : Wk (gTupD n gs (.tup ds) ρ) Qe te = Wk (gd (decide (ds.length = n))) fun _ => Wk (gs ds ρ) Qe te := by
  have e : gTupD n gs (.tup ds) ρ = if ds.length = n then gs ds ρ else .stuck := rfl
  rw [e]
  by_cases h : ds.length = n
  · rw [if_pos h, decide_eq_true h]
    show _ = Wk (.ok ()) _
    rw [wk_ok]
  · rw [if_neg h, decide_eq_false h]
    exact propext ⟨fun ⟨_, h, _⟩ => (nomatch h), fun ⟨_, h, _⟩ => (nomatch h)⟩
@[simp ↓] theorem wk_gsNil : Wk (gsNil [] ρ) Qe te = Qe ρ := wk_ok _ _ _
@[simp ↓] theorem wk_gsCons (g : D → Env → Res Env) (gs : List D → Env → Res Env) (d : D) (ds : List D) : Wk (gsCons g gs (d :: ds) ρ) Qe te = Wk (g d ρ) fun ρ' => Wk (gs ds ρ') Qe te := by
  have e : gsCons g gs (d :: ds) ρ = (g d ρ >>= fun ρ' => gs ds ρ') := rfl
  rw [e, wk_bind]
@[simp ↓] theorem wk_cYes : Wk (cYes ρ) Qb tb = Qb (true, ρ) := wk_ok _ _ _

/-! ### loops and comprehensions -/
theorem wk_for {α : Type} {g : D → Env → Res Env} {B : SS} {xs : List D} {ρ : Env} {Q : Fl × Env → Prop} {t : Hid Q} (ts : List α) (e : α → D) (I : List α → Env → Prop) (hx : xs = ts.map e) (h0 : I ts ρ)
    (step : ∀ t rest ρ, I (t :: rest) ρ → Wk (g (e t) ρ) fun ρ1 => Wk (B ρ1) fun r => match r.1 with | .nx => Hold (I rest r.2) | .cont => Hold (I rest r.2) | .brk => Q (.nx, r.2) | .ret v => Q (.ret v, r.2))
    (fin : ∀ ρ, I [] ρ → Q (.nx, ρ)) : Wk (forL g B xs ρ) Q t := by
  subst hx
  refine forL_w ts ρ h0 (fun t rest ρ i => ?_) fin
  obtain ⟨ρ1, h1, ⟨fl, ρ2⟩, h2, h3⟩ := step t rest ρ i
  refine ⟨ρ1, fl, ρ2, h1, h2, ?_⟩
  cases fl <;> exact h3
/-- a comprehension that changes nothing -/
theorem wk_lc {α : Type} {vs : List Nat} {g : D → Env → Res Env} {cnd : Env → Res (Bool × Env)} {elt : SE} {xs : List D} {ρ : Env} {Q : D × Env → Prop} {t : Hid Q} (ts : List α) (e : α → D) (p : α → Bool) (f : α → D) (hx : xs = ts.map e)
    (h : ∀ t, t ∈ ts → Wk (g (e t) (wipeE ρ vs)) fun ρ1 => Same vs ρ ρ1 ∧ Wk (cnd ρ1) fun r => r = (p t, ρ1) ∧ (p t = true → Wk (elt ρ1) fun r => r = (.val (f t), ρ1)))
    (q : Q (.lst ((ts.filter p).map f), ρ)) : Wk (lcR vs g cnd elt xs ρ) Q t := by
  subst hx
  obtain ⟨ρ', s', h4⟩ := lcL_pure (cnd := cnd) (elt := elt) (p := p) (f := f) ts ρ (Same.refl vs ρ) fun t ht => by
    obtain ⟨ρ1, h1, h2, r, h3, h5, h6⟩ := h t ht
    refine ⟨ρ1, h1, h2, h3.trans (by rw [h5]), fun hp => ?_⟩
    exact Wk.ok_iff.mp (h6 hp)
  refine ⟨_, ?_, q⟩
  unfold lcR
  rw [h4]
  simp only [ok_bind, s'.rest]
theorem wk_map {α : Type} {vs : List Nat} {g : D → Env → Res Env} {elt : SE} {xs : List D} {ρ : Env} {Q : D × Env → Prop} {t : Hid Q} (ts : List α) (e : α → D) (f : α → D) (hx : xs = ts.map e)
    (h : ∀ t, t ∈ ts → Wk (g (e t) (wipeE ρ vs)) fun ρ1 => Same vs ρ ρ1 ∧ Wk (elt ρ1) fun r => r = (.val (f t), ρ1))
    (q : Q (.lst (ts.map f), ρ)) : Wk (lcR vs g cYes elt xs ρ) Q t := by
  refine wk_lc ts e (fun _ => true) f hx (fun t ht => ?_) (by rw [filter_yes]; exact q)
  obtain ⟨ρ1, h1, h2, h3⟩ := h t ht
  exact ⟨ρ1, h1, h2, ⟨_, rfl, rfl, fun _ => h3⟩⟩
/-- .. of one name -/
theorem wk_map1 {α : Type} {i : Nat} {elt : SE} {xs : List D} {ρ : Env} {Q : D × Env → Prop} {t : Hid Q} (ts : List α) (e : α → D) (f : α → D) (hx : xs = ts.map e)
    (h : ∀ t, t ∈ ts → Wk (elt (w1 ρ i (e t))) fun r => r = (.val (f t), w1 ρ i (e t))) (q : Q (.lst (ts.map f), ρ)) : Wk (lcR [i] (gNm i) cYes elt xs ρ) Q t :=
  wk_map ts e f hx (fun t ht => ⟨_, rfl, (same_wipe [i] ρ).st (by simp), h t ht⟩) q
theorem wk_flt1 {α : Type} {i : Nat} {cnd : Env → Res (Bool × Env)} {elt : SE} {xs : List D} {ρ : Env} {Q : D × Env → Prop} {t : Hid Q} (ts : List α) (e : α → D) (p : α → Bool) (f : α → D) (hx : xs = ts.map e)
    (h : ∀ t, t ∈ ts → Wk (cnd (w1 ρ i (e t))) fun r => r = (p t, w1 ρ i (e t)) ∧ (p t = true → Wk (elt (w1 ρ i (e t))) fun r => r = (.val (f t), w1 ρ i (e t)))) (q : Q (.lst ((ts.filter p).map f), ρ)) : Wk (lcR [i] (gNm i) cnd elt xs ρ) Q t :=
  wk_lc ts e p f hx (fun t ht => ⟨_, rfl, (same_wipe [i] ρ).st (by simp), h t ht⟩) q
/-- .. of two -/
theorem wk_map2 {α : Type} {i j : Nat} {elt : SE} {xs : List D} {ρ : Env} {Q : D × Env → Prop} {t : Hid Q} (ts : List α) (a b f : α → D) (hx : xs = ts.map fun t => .tup [a t, b t])
    (h : ∀ t, t ∈ ts → Wk (elt (w2 ρ i j (a t) (b t))) fun r => r = (.val (f t), w2 ρ i j (a t) (b t))) (q : Q (.lst (ts.map f), ρ)) : Wk (lcR [i, j] (gTupD 2 (gsCons (gNm i) (gsCons (gNm j) gsNil))) cYes elt xs ρ) Q t :=
  wk_map ts _ f hx (fun t ht => ⟨_, g2_ok _ _ _, ((same_wipe [i, j] ρ).st (by simp)).st (by simp), h t ht⟩) q
theorem wk_flt2 {α : Type} {i j : Nat} {cnd : Env → Res (Bool × Env)} {elt : SE} {xs : List D} {ρ : Env} {Q : D × Env → Prop} {t : Hid Q} (ts : List α) (a b : α → D) (p : α → Bool) (f : α → D) (hx : xs = ts.map fun t => .tup [a t, b t])
    (h : ∀ t, t ∈ ts → Wk (cnd (w2 ρ i j (a t) (b t))) fun r => r = (p t, w2 ρ i j (a t) (b t)) ∧ (p t = true → Wk (elt (w2 ρ i j (a t) (b t))) fun r => r = (.val (f t), w2 ρ i j (a t) (b t)))) (q : Q (.lst ((ts.filter p).map f), ρ)) : Wk (lcR [i, j] (gTupD 2 (gsCons (gNm i) (gsCons (gNm j) gsNil))) cnd elt xs ρ) Q t :=
  wk_lc ts _ p f hx (fun t ht => ⟨_, g2_ok _ _ _, ((same_wipe [i, j] ρ).st (by simp)).st (by simp), h t ht⟩) q
/-- .. that changes slots -/
theorem lcL_I {α : Type} {vs : List Nat} {g : D → Env → Res Env} {cnd : Env → Res (Bool × Env)} {elt : SE} {e : α → D} {J : List α → List D → Env → Prop} : ∀ (ts : List α) (acc : List D) (ρ : Env), J ts acc ρ →
    (∀ t rest acc ρ, J (t :: rest) acc ρ → Wk (g (e t) (wipeE ρ vs)) fun ρ1 => Wk (cnd ρ1) fun r => bif r.1 then Wk (elt r.2) fun r2 => Wk (ofOpt (valOf r2.1)) fun d => Hold (J rest (acc ++ [d]) r2.2) else Hold (J rest acc r.2)) →
    ∃ ds ρ', lcL vs g cnd elt (ts.map e) ρ = .ok (ds, ρ') ∧ J [] (acc ++ ds) ρ'
  | [], acc, ρ, i, _ => ⟨[], ρ, rfl, by rw [List.append_nil]; exact i⟩
  | t :: ts, acc, ρ, i, h => by
    obtain ⟨ρ1, h1, ⟨b, ρ2⟩, h2, h3⟩ := h t ts acc ρ i
    have e0 : lcL vs g cnd elt ((t :: ts).map e) ρ = (noErr (g (e t) (wipeE ρ vs)) >>= fun ρ1 => noErr (cnd ρ1) >>= fun r => bif r.1 then noErr (elt r.2) >>= fun r2 => ofOpt (valOf r2.1) >>= fun x => lcL vs g cnd elt (ts.map e) r2.2 >>= fun r3 => .ok (x :: r3.1, r3.2) else lcL vs g cnd elt (ts.map e) r.2) := rfl
    cases b with
    | false =>
      obtain ⟨ds, ρ', h4, h5⟩ := lcL_I ts acc ρ2 h3 h
      refine ⟨ds, ρ', ?_, h5⟩
      rw [e0, h1]
      simp only [r_noErr, ok_bind, h2, cond_false, h4]
    | true =>
      obtain ⟨⟨dv, ρ3⟩, h6, d, h7, h8⟩ := h3
      obtain ⟨ds, ρ', h4, h5⟩ := lcL_I ts (acc ++ [d]) ρ3 h8 h
      refine ⟨d :: ds, ρ', ?_, by rw [List.append_assoc] at h5; exact h5⟩
      have h6' : elt ρ2 = .ok (dv, ρ3) := h6
      have h7' : ofOpt (valOf dv) = .ok d := h7
      rw [e0, h1]
      simp only [r_noErr, ok_bind, h2, cond_true, h6', h7', h4]
theorem wk_lcI {α : Type} {vs : List Nat} {g : D → Env → Res Env} {cnd : Env → Res (Bool × Env)} {elt : SE} {xs : List D} {ρ : Env} {Q : D × Env → Prop} {t : Hid Q} (ts : List α) (e : α → D) (J : List α → List D → Env → Prop) (hx : xs = ts.map e) (h0 : J ts [] ρ)
    (step : ∀ t rest acc ρ, J (t :: rest) acc ρ → Wk (g (e t) (wipeE ρ vs)) fun ρ1 => Wk (cnd ρ1) fun r => bif r.1 then Wk (elt r.2) fun r2 => Wk (ofOpt (valOf r2.1)) fun d => Hold (J rest (acc ++ [d]) r2.2) else Hold (J rest acc r.2))
    (fin : ∀ ds ρ', J [] ds ρ' → Q (.lst ds, restE ρ ρ' vs)) : Wk (lcR vs g cnd elt xs ρ) Q t := by
  subst hx
  obtain ⟨ds, ρ', h1, h2⟩ := lcL_I (vs := vs) (g := g) (cnd := cnd) (elt := elt) ts [] ρ h0 step
  refine ⟨_, ?_, fin ds ρ' h2⟩
  unfold lcR
  rw [h1]
  rfl
end EV

namespace EV
open PySem PySem.Spec L2 SX
open PyProof.Rows hiding St
@[simp] theorem q_w1 (ρ : Env) (i : Nat) (d : D) : w1 ρ i d = st (st ρ i none) i (some d) := nr rfl
@[simp] theorem q_w2 (ρ : Env) (i j : Nat) (a b : D) : w2 ρ i j a b = st (st (st (st ρ j none) i none) i (some a)) j (some b) := nr rfl
/-! ### slices and small data -/
theorem cut_le {α : Type} (xs : List α) (lo hi : Option Int) : (cut xs lo hi).length ≤ xs.length := by
  unfold cut
  rw [List.length_take, List.length_drop]
  omega
theorem smL_cons (d : D) (ds : List D) : smL (d :: ds) = (d.sm && smL ds) := rfl
theorem smL_app : ∀ a b : List D, smL (a ++ b) = (smL a && smL b)
  | [], b => rfl
  | x :: a, b => by
    show (x.sm && smL (a ++ b)) = ((x.sm && smL a) && smL b)
    rw [smL_app a b, Bool.and_assoc]
theorem smL_cut {xs : List D} (lo hi : Option Int) (h : smL xs = true) : smL (cut xs lo hi) = true := smL_of fun d hd => smL_mem h d (cut_mem hd)
theorem tup_sm {xs : List D} (h1 : xs.length ≤ 1000) (h2 : smL xs = true) : (D.tup xs).sm = true := by
  show (decide (xs.length ≤ 1000) && smL xs) = true
  rw [decide_eq_true h1, h2]
  rfl
theorem lst_sm {xs : List D} (h1 : xs.length ≤ 1000) (h2 : smL xs = true) : (D.lst xs).sm = true := tup_sm h1 h2
theorem repl_len {α : Type} (n : Nat) (xs : List α) : (List.replicate n xs).flatten.length = n * xs.length := by
  induction n with
  | zero => simp
  | succ n ih => rw [List.replicate_succ, List.flatten_cons, List.length_append, ih, Nat.succ_mul, Nat.add_comm]
theorem smL_rep {xs : List D} (n : Nat) (h : smL xs = true) : smL (List.replicate n xs).flatten = true := by
  induction n with
  | zero => rfl
  | succ n ih => rw [List.replicate_succ, List.flatten_cons, smL_app, h, ih]; rfl
end EV
namespace EV
open PySem PySem.Spec L2 SX
open PyProof.Rows hiding St
/-! ### loops that count -/
theorem wk_forN {g : D → Env → Res Env} {B : SS} {xs : List D} {ρ : Env} {Q : Fl × Env → Prop} {t : Hid Q} (n : Nat) (e : Nat → D) (I : Nat → Env → Prop) (hx : xs = (List.range n).map e) (h0 : I 0 ρ)
    (step : ∀ k ρ, k < n → I k ρ → Wk (g (e k) ρ) fun ρ1 => Wk (B ρ1) fun r => match r.1 with | .nx => Hold (I (k + 1) r.2) | .cont => Hold (I (k + 1) r.2) | .brk => Q (.nx, r.2) | .ret v => Q (.ret v, r.2))
    (fin : ∀ ρ, I n ρ → Q (.nx, ρ)) : Wk (forL g B xs ρ) Q t := by
  refine wk_for (List.range n) e (fun rest ρ => ∃ k, k + rest.length = n ∧ rest = List.range' k rest.length ∧ I k ρ) hx ⟨0, by simp, by simp [List.range_eq_range'], h0⟩ ?_ ?_
  · rintro k rest ρ ⟨j, hl, hr, hi⟩
    rw [List.length_cons] at hl hr
    rw [List.range'_succ] at hr
    injection hr with e1 e2
    subst e1
    refine (step k ρ (by omega) hi).mono fun ρ1 h => h.mono fun r h => ?_
    cases hf : r.1 with
    | nx => rw [hf] at h; exact ⟨k + 1, by omega, e2, h⟩
    | cont => rw [hf] at h; exact ⟨k + 1, by omega, e2, h⟩
    | brk => rw [hf] at h; exact h
    | ret v => rw [hf] at h; exact h
  · rintro ρ ⟨k, hl, hr, hi⟩
    rw [List.length_nil] at hl
    obtain rfl : k = n := by omega
    exact fin ρ hi
theorem wk_lcN {vs : List Nat} {g : D → Env → Res Env} {cnd : Env → Res (Bool × Env)} {elt : SE} {xs : List D} {ρ : Env} {Q : D × Env → Prop} {t : Hid Q} (n : Nat) (e : Nat → D) (J : Nat → List D → Env → Prop) (hx : xs = (List.range n).map e) (h0 : J 0 [] ρ)
    (step : ∀ k acc ρ, k < n → J k acc ρ → Wk (g (e k) (wipeE ρ vs)) fun ρ1 => Wk (cnd ρ1) fun r => bif r.1 then Wk (elt r.2) fun r2 => Wk (ofOpt (valOf r2.1)) fun d => Hold (J (k + 1) (acc ++ [d]) r2.2) else Hold (J (k + 1) acc r.2))
    (fin : ∀ ds ρ', J n ds ρ' → Q (.lst ds, restE ρ ρ' vs)) : Wk (lcR vs g cnd elt xs ρ) Q t := by
  refine wk_lcI (List.range n) e (fun rest acc ρ => ∃ k, k + rest.length = n ∧ rest = List.range' k rest.length ∧ J k acc ρ) hx ⟨0, by simp, by simp [List.range_eq_range'], h0⟩ ?_ ?_
  · rintro k rest acc ρ ⟨j, hl, hr, hi⟩
    rw [List.length_cons] at hl hr
    rw [List.range'_succ] at hr
    injection hr with e1 e2
    subst e1
    refine (step k acc ρ (by omega) hi).mono fun ρ1 h => h.mono fun r h => ?_
    cases hf : r.1 with
    | true =>
      rw [hf] at h
      have h' : Wk (elt r.2) fun r2 => Wk (ofOpt (valOf r2.1)) fun d => Hold (J (k + 1) (acc ++ [d]) r2.2) := h
      exact Wk.mono (t' := .mk _) h' fun r2 h => Wk.mono (t' := .mk _) h fun d h => ⟨k + 1, by omega, e2, h⟩
    | false =>
      rw [hf] at h
      exact ⟨k + 1, by omega, e2, h⟩
  · rintro ds ρ' ⟨k, hl, hr, hi⟩
    rw [List.length_nil] at hl
    obtain rfl : k = n := by omega
    exact fin ds ρ' hi
end EV

namespace EV
open PySem PySem.Spec L2 SX
open PyProof.Rows hiding St
theorem ba0 {a b : Bool} (h : (a && b) = true) : a = true ∧ b = true := by rwa [Bool.and_eq_true] at h
/-! ### running the dicts' mirrors -/
variable {ρ : Env} {Q : DV × Env → Prop} {t : Hid Q} {Qs : Fl × Env → Prop} {ts : Hid Qs} {Qd : D × Env → Prop} {td : Hid Qd} {Qp : List (D × D) × Env → Prop} {tp : Hid Qp}
@[simp ↓] theorem wk_sStK (f o i : SE) : Wk (sStK f o i ρ) Qs ts = Wk (f ρ) fun r => Wk (ofOpt (valOf r.1)) fun d => Wk (o r.2) fun r1 => Wk (ofOpt (plcOf r1.1)) fun s => Wk (i r1.2) fun r2 => Wk (ofOpt (valOf r2.1)) fun k => Wk (ofOpt (gt r2.2 s)) fun l => Wk (ofOpt (setK k d l)) fun l' => Qs (.nx, st r2.2 s (some l')) := by
  have e : sStK f o i ρ = (f ρ >>= fun r => ofOpt (valOf r.1) >>= fun d => o r.2 >>= fun r1 => ofOpt (plcOf r1.1) >>= fun s => i r1.2 >>= fun r2 => ofOpt (valOf r2.1) >>= fun k => ofOpt (gt r2.2 s) >>= fun l => ofOpt (setK k d l) >>= fun l' => .ok (.nx, st r2.2 s (some l'))) := rfl
  rw [e]
  repeat' (first | exact wk_ok _ _ _ | refine wk_b fun _ => ?_)
@[simp ↓] theorem wk_eGet2 (o i f : SE) : Wk (eGet2 o i f ρ) Q t = Wk (o ρ) fun r => Wk (deref r.2 r.1) fun d0 => Wk (ofOpt (isDk d0)) fun _ => Wk (i r.2) fun r1 => Wk (ofOpt (valOf r1.1)) fun k => Wk (f r1.2) fun r2 => Wk (ofOpt (valOf r2.1)) fun x => Wk (deref r2.2 r.1) fun d => Wk (ofOpt (getK k x d)) fun y => Q (.val y, r2.2) := by
  have e : eGet2 o i f ρ = (o ρ >>= fun r => deref r.2 r.1 >>= fun d0 => ofOpt (isDk d0) >>= fun _ => i r.2 >>= fun r1 => ofOpt (valOf r1.1) >>= fun k => f r1.2 >>= fun r2 => ofOpt (valOf r2.1) >>= fun x => deref r2.2 r.1 >>= fun d => ofOpt (getK k x d) >>= fun y => .ok (.val y, r2.2)) := rfl
  rw [e]
  repeat' (first | exact wk_ok _ _ _ | refine wk_b fun _ => ?_)
@[simp ↓] theorem wk_fDk0 : Wk (fDk0 ρ) Qd td = Qd (.dk [], ρ) := wk_ok _ _ _
@[simp ↓] theorem wk_ppNil : Wk (ppNil ρ) Qp tp = Qp ([], ρ) := wk_ok _ _ _
@[simp ↓] theorem wk_ppCons (k v : SE) (f : Env → Res (List (D × D) × Env)) : Wk (ppCons k v f ρ) Qp tp = Wk (k ρ) fun r => Wk (ofOpt (valOf r.1)) fun d => Wk (v r.2) fun r1 => Wk (ofOpt (valOf r1.1)) fun d1 => Wk (f r1.2) fun r2 => Qp ((d, d1) :: r2.1, r2.2) := by
  have e : ppCons k v f ρ = (k ρ >>= fun r => ofOpt (valOf r.1) >>= fun d => v r.2 >>= fun r1 => ofOpt (valOf r1.1) >>= fun d1 => f r1.2 >>= fun r2 => .ok ((d, d1) :: r2.1, r2.2)) := rfl
  rw [e]
  repeat' (first | exact wk_ok _ _ _ | refine wk_b fun _ => ?_)
@[simp ↓] theorem wk_fDisp (f : Env → Res (List (D × D) × Env)) : Wk (fDisp f ρ) Qd td = Wk (f ρ) fun r => Wk (ofOpt (kdPs r.1)) fun kds => Qd (.dk (mergeD [] kds), r.2) := by
  have e : fDisp f ρ = (f ρ >>= fun r => ofOpt (kdPs r.1) >>= fun kds => .ok (.dk (mergeD [] kds), r.2)) := rfl
  rw [e]
  repeat' (first | exact wk_ok _ _ _ | refine wk_b fun _ => ?_)
/-- a loop under a lock -/
theorem wk_forK {i : Nat} {g : D → Env → Res Env} {B : SS} {kds : List (Kd × D)} (e : gt ρ i = some (.dk kds)) (ok : okKs kds = true) : Wk (sForK i g B ρ) Qs ts = Wk (forL g (fun ρ => noErr (B ρ)) (kds.map fun kv => kdD kv.1) ρ) Qs ts := by
  unfold sForK
  rw [e]
  show Wk (bif okKs kds then _ else _) _ _ = _
  rw [ok]
  rfl
@[simp] theorem q_isDk (kds : List (Kd × D)) : isDk (.dk kds) = some () := nr rfl
@[simp] theorem q_kdI (i : Int) : kdOf (.int i) = some (.inl i) := nr rfl
@[simp] theorem q_kdS (s : List Nat) : kdOf (.str s) = some (.inr s) := nr rfl
@[simp] theorem q_getK (kds : List (Kd × D)) (k x : D) : getK k x (.dk kds) = (kdOf k).map fun j => (lookD kds j).getD x := nr rfl
theorem q_setK {kds : List (Kd × D)} {k d : D} {j : Kd} (e : kdOf k = some j) (h : kds.length < 16777216) : setK k d (.dk kds) = some (.dk (putD kds j d)) := by
  unfold setK
  rw [e]
  exact if_pos h
@[simp] theorem q_atD (kds : List (Kd × D)) (k : D) : dAt (.dk kds) k = (kdOf k).bind (lookD kds) := nr rfl
@[simp] theorem q_atL (xs : List D) (i : Int) : dAt (.lst xs) (.int i) = L2.atI xs i := nr rfl
@[simp] theorem q_atT (xs : List D) (i : Int) : dAt (.tup xs) (.int i) = L2.atI xs i := nr rfl
theorem q_atS {s : List Nat} (i : Int) (h : s.length ≤ 16777216) : dAt (.str s) (.int i) = (L2.atI s i).map fun c => .str [c] := if_pos h
theorem q_eqA {a b d : D} (h : dEq a b = some d) : dEqA a b = some d := by unfold dEqA; rw [h]; rfl
theorem q_neA {a b d : D} (h : dNe a b = some d) : dNeA a b = some d := by unfold dNeA; rw [h]; rfl
@[simp] theorem q_eqI (i j : Int) : dEqA (.int i) (.int j) = some (.bl (i == j)) := q_eqA rfl
@[simp] theorem q_neI (i j : Int) : dNeA (.int i) (.int j) = some (.bl (!(i == j))) := q_neA rfl
@[simp] theorem q_eqS (a b : List Nat) : dEqA (.str a) (.str b) = some (.bl (a == b)) := q_eqA rfl
@[simp] theorem q_neS (a b : List Nat) : dNeA (.str a) (.str b) = some (.bl (!(a == b))) := q_neA rfl
@[simp] theorem q_min2I (i j : Int) : bMin2A [.int i, .int j] = some (.int (if j < i then j else i)) := nr rfl
theorem q_eqK0 (ks : List (Kd × D)) : dEqA (.dk ks) (.dk []) = some (.bl ks.isEmpty) := by
  have : dEq (.dk ks) (.dk []) = none := rfl
  unfold dEqA
  rw [this]
  show some (D.bl (ks.isEmpty != false)) = _
  rw [Bool.bne_false]
theorem q_neK0 (ks : List (Kd × D)) : dNeA (.dk ks) (.dk []) = some (.bl (!ks.isEmpty)) := by
  have : dNe (.dk ks) (.dk []) = none := rfl
  unfold dNeA
  rw [this]
  show some (D.bl (ks.isEmpty != true)) = _
  rw [Bool.bne_true]
end EV

namespace EV
open PySem PySem.Spec L2 SX
open PyProof.Rows hiding St
/-! ### running the mirrors of dicts with tuple keys -/
variable {ρ : Env} {Q : DV × Env → Prop} {t : Hid Q} {Qs : Fl × Env → Prop} {ts : Hid Qs} {Qd : D × Env → Prop} {td : Hid Qd} {Ql : List D × Env → Prop} {tl : Hid Ql}
@[simp ↓] theorem wk_sStT (f o i : SE) : Wk (sStT f o i ρ) Qs ts = Wk (f ρ) fun r => Wk (ofOpt (valOf r.1)) fun d => Wk (o r.2) fun r1 => Wk (ofOpt (plcOf r1.1)) fun s => Wk (i r1.2) fun r2 => Wk (ofOpt (valOf r2.1)) fun k => Wk (ofOpt (gt r2.2 s)) fun l => Wk (ofOpt (setT k d l)) fun l' => Qs (.nx, st r2.2 s (some l')) := by
  have e : sStT f o i ρ = (f ρ >>= fun r => ofOpt (valOf r.1) >>= fun d => o r.2 >>= fun r1 => ofOpt (plcOf r1.1) >>= fun s => i r1.2 >>= fun r2 => ofOpt (valOf r2.1) >>= fun k => ofOpt (gt r2.2 s) >>= fun l => ofOpt (setT k d l) >>= fun l' => .ok (.nx, st r2.2 s (some l'))) := rfl
  rw [e]
  repeat' (first | exact wk_ok _ _ _ | refine wk_b fun _ => ?_)
@[simp ↓] theorem wk_eGet2T (o i f : SE) : Wk (eGet2T o i f ρ) Q t = Wk (o ρ) fun r => Wk (deref r.2 r.1) fun d0 => Wk (ofOpt (isDt d0)) fun _ => Wk (i r.2) fun r1 => Wk (ofOpt (valOf r1.1)) fun k => Wk (f r1.2) fun r2 => Wk (ofOpt (valOf r2.1)) fun x => Wk (deref r2.2 r.1) fun d => Wk (ofOpt (getT k x d)) fun y => Q (.val y, r2.2) := by
  have e : eGet2T o i f ρ = (o ρ >>= fun r => deref r.2 r.1 >>= fun d0 => ofOpt (isDt d0) >>= fun _ => i r.2 >>= fun r1 => ofOpt (valOf r1.1) >>= fun k => f r1.2 >>= fun r2 => ofOpt (valOf r2.1) >>= fun x => deref r2.2 r.1 >>= fun d => ofOpt (getT k x d) >>= fun y => .ok (.val y, r2.2)) := rfl
  rw [e]
  repeat' (first | exact wk_ok _ _ _ | refine wk_b fun _ => ?_)
@[simp ↓] theorem wk_fDt0 : Wk (fDt0 ρ) Qd td = Qd (.dt [], ρ) := wk_ok _ _ _
@[simp ↓] theorem wk_fDispT (f : Env → Res (List (D × D) × Env)) : Wk (fDispT f ρ) Qd td = Wk (f ρ) fun r => Wk (ofOpt (tdPs r.1)) fun kds => Qd (.dt (mergeT [] kds), r.2) := by
  have e : fDispT f ρ = (f ρ >>= fun r => ofOpt (tdPs r.1) >>= fun kds => .ok (.dt (mergeT [] kds), r.2)) := rfl
  rw [e]
  repeat' (first | exact wk_ok _ _ _ | refine wk_b fun _ => ?_)
def kyOf : D → Option (List D)
  | .dk kds => if okKs kds = true then some (kds.map fun kv => kdD kv.1) else none
  | .dt kds => some (keysT kds)
  | _ => none
theorem iKy_eq (i : Nat) : iKy i ρ = (ofOpt (gt ρ i) >>= fun d => ofOpt (kyOf d) >>= fun xs => .ok (xs, ρ)) := by
  unfold iKy
  cases h : gt ρ i with
  | none => rfl
  | some d =>
    cases d with
    | dk kds =>
      show (bif okKs kds then _ else _) = (ofOpt (if okKs kds = true then some (kds.map fun kv => kdD kv.1) else none) >>= fun xs => Res.ok (xs, ρ))
      cases okKs kds <;> rfl
    | _ => rfl
@[simp ↓] theorem wk_iKy (i : Nat) : Wk (iKy i ρ) Ql tl = Wk (ofOpt (gt ρ i)) fun d => Wk (ofOpt (kyOf d)) fun xs => Ql (xs, ρ) := by
  rw [iKy_eq]
  repeat' (first | exact wk_ok _ _ _ | refine wk_b fun _ => ?_)
@[simp] theorem q_kyT (kds : List (List Int × D)) : kyOf (.dt kds) = some (keysT kds) := nr rfl
theorem q_kyK {kds : List (Kd × D)} (h : okKs kds = true) : kyOf (.dk kds) = some (kds.map fun kv => kdD kv.1) := if_pos h
@[simp ↓] theorem wk_sForT (i : Nat) (g : D → Env → Res Env) (B : SS) : Wk (sForT i g B ρ) Qs ts = Wk (iKy i ρ) fun r => Wk (forL g (fun ρ => noErr (B ρ)) r.1 r.2) Qs := by
  have e : sForT i g B ρ = (iKy i ρ >>= fun r => forL g (fun ρ => noErr (B ρ)) r.1 r.2) := rfl
  rw [e]
  exact wk_b fun r => by cases ts; rfl
@[simp] theorem q_isDt (kds : List (List Int × D)) : isDt (.dt kds) = some () := nr rfl
@[simp] theorem q_key2 (i j : Int) : keyI (.tup [.int i, .int j]) = some [i, j] := nr rfl
@[simp] theorem q_getT (kds : List (List Int × D)) (k x : D) : getT k x (.dt kds) = (keyI k).map fun j => (lookT kds j).getD x := nr rfl
theorem q_setT {kds : List (List Int × D)} {k d : D} {j : List Int} (e : keyI k = some j) (h : kds.length < 16777216) : setT k d (.dt kds) = some (.dt (putT kds j d)) := by
  unfold setT
  rw [e]
  exact if_pos h
@[simp] theorem q_atTT (kds : List (List Int × D)) (k : D) : dAtT (.dt kds) k = (keyI k).bind (lookT kds) := nr rfl
@[simp] theorem q_eqT0 (kds : List (List Int × D)) (b : Bool) : dEqT0 b (.dt kds) (.dt []) = some (.bl (kds.isEmpty != b)) := nr rfl
end EV

namespace EV
open PySem PySem.Spec L2 SX
open PyProof.Rows hiding St
/-! ### data without bools: == is equality -/
mutual
def D.pu : D → Bool
  | .tup xs => puL xs
  | .lst xs => puL xs
  | .non => true
  | .int _ => true
  | .str _ => true
  | _ => false
def puL : List D → Bool
  | [] => true
  | d :: r => d.pu && puL r
end
mutual
theorem pu_lay : ∀ d : D, d.pu = true → d.lay = true
  | .tup xs, h => by simp only [D.lay]; exact puL_lay xs (by simpa [D.pu] using h)
  | .lst xs, h => by simp only [D.lay]; exact puL_lay xs (by simpa [D.pu] using h)
  | .non, _ => by simp [D.lay]
  | .int _, _ => by simp [D.lay]
  | .str _, _ => by simp [D.lay]
  | .bl _, h => by simp [D.pu] at h
  | .dk _, h => by simp [D.pu] at h
  | .dt _, h => by simp [D.pu] at h
  | .fn _, h => by simp [D.pu] at h
  | .scr _, h => by simp [D.pu] at h
theorem puL_lay : ∀ ds : List D, puL ds = true → layL ds = true
  | [], _ => by simp [layL]
  | d :: r, h => by
    have h' : d.pu = true ∧ puL r = true := by simpa [puL] using h
    simp only [layL]
    rw [pu_lay d h'.1, puL_lay r h'.2]
    rfl
end
mutual
theorem pu_eqv : ∀ a b : D, a.pu = true → b.pu = true → (a.eqv b = true ↔ a = b)
  | .non, b, _, hb => by cases b <;> simp_all [D.eqv, D.pu]
  | .int x, b, _, hb => by cases b <;> simp_all [D.eqv, D.pu]
  | .str x, b, _, hb => by cases b <;> simp_all [D.eqv, D.pu]
  | .tup xs, b, ha, hb => by
    cases b with
    | tup ys =>
      simp only [D.eqv, D.tup.injEq]
      exact puL_eqv xs ys (by simpa [D.pu] using ha) (by simpa [D.pu] using hb)
    | _ => simp_all [D.eqv, D.pu]
  | .lst xs, b, ha, hb => by
    cases b with
    | lst ys =>
      simp only [D.eqv, D.lst.injEq]
      exact puL_eqv xs ys (by simpa [D.pu] using ha) (by simpa [D.pu] using hb)
    | _ => simp_all [D.eqv, D.pu]
  | .bl _, _, h, _ => by simp [D.pu] at h
  | .dk _, _, h, _ => by simp [D.pu] at h
  | .dt _, _, h, _ => by simp [D.pu] at h
  | .fn _, _, h, _ => by simp [D.pu] at h
  | .scr _, _, h, _ => by simp [D.pu] at h
theorem puL_eqv : ∀ xs ys : List D, puL xs = true → puL ys = true → (eqvL xs ys = true ↔ xs = ys)
  | [], [], _, _ => by simp [eqvL]
  | [], _ :: _, _, _ => by simp [eqvL]
  | _ :: _, [], _, _ => by simp [eqvL]
  | x :: xs, y :: ys, h, h2 => by
    have h' : x.pu = true ∧ puL xs = true := by simpa [puL] using h
    have h2' : y.pu = true ∧ puL ys = true := by simpa [puL] using h2
    simp only [eqvL, Bool.and_eq_true, List.cons.injEq]
    rw [pu_eqv x y h'.1 h2'.1, puL_eqv xs ys h'.2 h2'.2]
end
theorem puL_mem : ∀ {ds : List D}, puL ds = true → ∀ d, d ∈ ds → d.pu = true
  | [], _, _, h => nomatch h
  | x :: xs, h, d, hm => by
    have h' : x.pu = true ∧ puL xs = true := by simpa [puL] using h
    rcases List.mem_cons.mp hm with rfl | hm
    · exact h'.1
    · exact puL_mem h'.2 d hm
theorem puL_of : ∀ {ds : List D}, (∀ d, d ∈ ds → d.pu = true) → puL ds = true
  | [], _ => rfl
  | x :: xs, h => by
    show (x.pu && puL xs) = true
    rw [h x List.mem_cons_self, puL_of fun d hd => h d (List.mem_cons_of_mem _ hd)]
    rfl
theorem pu_ints (ts : List Int) : puL (ts.map D.int) = true := puL_of fun d hd => by obtain ⟨t, _, rfl⟩ := List.mem_map.mp hd; rfl
theorem pu_strs (ts : List (List Nat)) : puL (ts.map D.str) = true := puL_of fun d hd => by obtain ⟨t, _, rfl⟩ := List.mem_map.mp hd; rfl
theorem eq_tt {xs ys : List D} (hx : puL xs = true) (hy : puL ys = true) (hd : depL xs < 64) : dEq (.tup xs) (.tup ys) = some (.bl (eqvL xs ys)) := by
  have h : eqOk (.tup xs) (.tup ys) = true := by
    show (layL xs && layL ys && decide (min (depL xs + 1) (depL ys + 1) ≤ 64)) = true
    rw [puL_lay _ hx, puL_lay _ hy, decide_eq_true (by omega)]
    rfl
  show (if eqOk (.tup xs) (.tup ys) = true then some (D.bl (eqvL xs ys)) else none) = _
  rw [if_pos h]
theorem eq_ll {xs ys : List D} (hx : puL xs = true) (hy : puL ys = true) (hd : depL xs < 64) : dEq (.lst xs) (.lst ys) = some (.bl (eqvL xs ys)) := by
  have h : eqOk (.lst xs) (.lst ys) = true := by
    show (layL xs && layL ys && decide (min (depL xs + 1) (depL ys + 1) ≤ 64)) = true
    rw [puL_lay _ hx, puL_lay _ hy, decide_eq_true (by omega)]
    rfl
  show (if eqOk (.lst xs) (.lst ys) = true then some (D.bl (eqvL xs ys)) else none) = _
  rw [if_pos h]
theorem ne_tt {xs ys : List D} (hx : puL xs = true) (hy : puL ys = true) (hd : depL xs < 64) : dNe (.tup xs) (.tup ys) = some (.bl (!eqvL xs ys)) := by
  have h : eqOk (.tup xs) (.tup ys) = true := by
    show (layL xs && layL ys && decide (min (depL xs + 1) (depL ys + 1) ≤ 64)) = true
    rw [puL_lay _ hx, puL_lay _ hy, decide_eq_true (by omega)]
    rfl
  show (if eqOk (.tup xs) (.tup ys) = true then some (D.bl (!eqvL xs ys)) else none) = _
  rw [if_pos h]
/-- beside what is empty -/
theorem eq_l0 (xs : List D) (h : layL xs = true) : dEq (.lst xs) (.lst []) = some (.bl xs.isEmpty) := eq_nilL xs h
theorem ne_l0 (xs : List D) (h : layL xs = true) : dNe (.lst xs) (.lst []) = some (.bl (!xs.isEmpty)) := by
  show (if eqOk (.lst xs) (.lst []) = true then some (D.bl (!eqvL xs [])) else none) = _
  have h2 : eqOk (.lst xs) (.lst []) = true := by
    show (layL xs && true && decide (min (depL xs + 1) (0 + 1) ≤ 64)) = true
    rw [h, decide_eq_true (by omega)]
    rfl
  rw [if_pos h2]
  cases xs <;> rfl
theorem ne_t0 (xs : List D) (h : layL xs = true) : dNe (.tup xs) (.tup []) = some (.bl (!xs.isEmpty)) := by
  show (if eqOk (.tup xs) (.tup []) = true then some (D.bl (!eqvL xs [])) else none) = _
  have h2 : eqOk (.tup xs) (.tup []) = true := by
    show (layL xs && true && decide (min (depL xs + 1) (0 + 1) ≤ 64)) = true
    rw [h, decide_eq_true (by omega)]
    rfl
  rw [if_pos h2]
  cases xs <;> rfl
theorem eq_t0 (xs : List D) (h : layL xs = true) : dEq (.tup xs) (.tup []) = some (.bl xs.isEmpty) := by
  show (if eqOk (.tup xs) (.tup []) = true then some (D.bl (eqvL xs [])) else none) = _
  have h2 : eqOk (.tup xs) (.tup []) = true := by
    show (layL xs && true && decide (min (depL xs + 1) (0 + 1) ≤ 64)) = true
    rw [h, decide_eq_true (by omega)]
    rfl
  rw [if_pos h2]
  cases xs <;> rfl
theorem eq_self0 (d : D) (h : d.lay = true) (h2 : ¬ ∃ xs, d = .tup xs) (h3 : ¬ ∃ xs, d = .lst xs) : dEq d d = some (.bl true) := by
  cases d with
  | non => rfl
  | bl b => cases b <;> rfl
  | int i =>
    show some (D.bl (i == i)) = _
    rw [beq_self_eq_true]
  | str s =>
    show some (D.bl (s == s)) = _
    rw [beq_self_eq_true]
  | tup xs => exact absurd ⟨_, rfl⟩ h2
  | lst xs => exact absurd ⟨_, rfl⟩ h3
  | _ => cases h
theorem dep_of_mem : ∀ {ds : List D} {d : D}, d ∈ ds → d.dep ≤ depL ds
  | x :: xs, d, h => by
    show d.dep ≤ max x.dep (depL xs)
    rcases List.mem_cons.mp h with rfl | h
    · exact Nat.le_max_left _ _
    · exact Nat.le_trans (dep_of_mem h) (Nat.le_max_right _ _)
theorem depL_le {n : Nat} : ∀ {ds : List D}, (∀ d, d ∈ ds → d.dep ≤ n) → depL ds ≤ n
  | [], _ => Nat.zero_le _
  | x :: xs, h => by
    show max x.dep (depL xs) ≤ n
    have h1 := h x List.mem_cons_self
    have h2 := depL_le fun d hd => h d (List.mem_cons_of_mem x hd)
    omega
theorem dep_ints0 (a : List Int) : depL (a.map D.int) = 0 := Nat.le_zero.mp (depL_le fun d hd => by obtain ⟨_, _, rfl⟩ := List.mem_map.mp hd; exact Nat.le_refl _)
theorem dep_strs0 (a : List (List Nat)) : depL (a.map D.str) = 0 := Nat.le_zero.mp (depL_le fun d hd => by obtain ⟨_, _, rfl⟩ := List.mem_map.mp hd; exact Nat.le_refl _)
theorem eqv_ints0 : ∀ a b : List Int, eqvL (a.map D.int) (b.map D.int) = decide (a = b)
  | a, b => by
    rw [Bool.eq_iff_iff, puL_eqv _ _ (pu_ints a) (pu_ints b), decide_eq_true_eq]
    exact List.map_inj_right fun x y e => by cases e; rfl
theorem eqv_strs0 : ∀ a b : List (List Nat), eqvL (a.map D.str) (b.map D.str) = decide (a = b)
  | a, b => by
    rw [Bool.eq_iff_iff, puL_eqv _ _ (pu_strs a) (pu_strs b), decide_eq_true_eq]
    exact List.map_inj_right fun x y e => by cases e; rfl
theorem eqI0 (i j : Int) : dEq (.int i) (.int j) = some (.bl (i == j)) := rfl
theorem neI0 (i j : Int) : dNe (.int i) (.int j) = some (.bl (!(i == j))) := rfl
/-- in -/
theorem in_45 {k : Int} : dIn id (.int k) (.tup [.int 4, .int 5]) = some (.bl ((4 == k) || (5 == k))) := by
  show some (D.bl (id ((4 == k) || ((5 == k) || false)))) = _
  rw [Bool.or_false]
  rfl
theorem any_strs0 (s : List Nat) : ∀ l : List (List Nat), anyEqv (.str s) (l.map D.str) = decide (s ∈ l)
  | [] => rfl
  | x :: l => by
    show ((x == s) || anyEqv (.str s) (l.map D.str)) = _
    rw [any_strs0 s l]
    by_cases h : x = s
    · subst h; simp
    · have : ¬ s = x := fun e => h e.symm
      simp [h, this]
theorem lay_strs0 (l : List (List Nat)) : layL (l.map D.str) = true := puL_lay _ (pu_strs l)
theorem lay_ints0 (l : List Int) : layL (l.map D.int) = true := puL_lay _ (pu_ints l)
theorem in_strs0 (k : Bool → Bool) (s : List Nat) (l : List (List Nat)) : dIn k (.str s) (.lst (l.map D.str)) = some (.bl (k (decide (s ∈ l)))) := by
  have : inOk (.str s) (l.map D.str) = true := by
    unfold inOk
    rw [lay_strs0, dep_strs0]
    rfl
  show (if inOk (.str s) (l.map D.str) = true then some (D.bl (k (anyEqv (.str s) (l.map D.str)))) else none) = _
  rw [if_pos this, any_strs0]
/-- None among data -/
theorem any_non : ∀ ds : List D, anyEqv .non ds = ds.any isNon
  | [] => rfl
  | x :: l => by
    show (x.eqv .non || anyEqv .non l) = (isNon x || l.any isNon)
    rw [any_non l]
    cases x <;> rfl
theorem in_non {ds : List D} (h : layL ds = true) : dIn id .non (.lst ds) = some (.bl (ds.any isNon)) := by
  have : inOk .non ds = true := by
    unfold inOk
    rw [h]
    simp [D.dep, D.lay]
  show (if inOk .non ds = true then some (D.bl (id (anyEqv .non ds))) else none) = _
  rw [if_pos this, any_non]
  rfl
theorem zip_self (xs : List D) : zipL xs xs = xs.map fun t => .tup [t, t] := by
  have := zipL_map xs (fun t => t) (fun t => t)
  rw [List.map_id'] at this
  exact this
theorem ids : ∀ l : List Int, EV.dInts (l.map D.int) = some l
  | [] => rfl
  | x :: l => by
    show (EV.dInts (l.map D.int)).map (x :: ·) = _
    rw [ids l]
    rfl
theorem sss : ∀ l : List (List Nat), dStrs (l.map D.str) = some l
  | [] => rfl
  | x :: l => by
    show (dStrs (l.map D.str)).map (x :: ·) = _
    rw [sss l]
    rfl
/-- an item -/
def nth {α : Type} [Inhabited α] (xs : List α) (k : Nat) : α := xs[k]!
theorem nth_get {α : Type} [Inhabited α] {xs : List α} {k : Nat} (h : k < xs.length) : nth xs k = xs[k] := getElem!_pos xs k h
theorem nth_mem {α : Type} [Inhabited α] {xs : List α} {k : Nat} (h : k < xs.length) : nth xs k ∈ xs := by rw [nth_get h]; exact List.getElem_mem h
theorem nth_cons {α : Type} [Inhabited α] {xs : List α} {k : Nat} (h : k < xs.length) : xs.drop k = nth xs k :: xs.drop (k + 1) := by rw [nth_get h]; exact List.drop_eq_getElem_cons h
theorem at_map {α : Type} [Inhabited α] {f : α → D} {xs : List α} {i : Int} (h0 : 0 ≤ i) (h1 : i < xs.length) : L2.atI (xs.map f) i = some (f (nth xs i.toNat)) := by
  have h : i.toNat < xs.length := by omega
  rw [atI_map]
  unfold L2.atI ixN
  rw [if_pos h0, if_pos h1]
  show (xs[i.toNat]?).map f = _
  rw [List.getElem?_eq_getElem h, nth_get h]
  rfl
theorem at_get {xs : List D} {i : Int} (h0 : 0 ≤ i) (h1 : i < xs.length) : L2.atI xs i = some (xs[i.toNat]'(by omega)) := by
  have h : i.toNat < xs.length := by omega
  unfold L2.atI ixN
  rw [if_pos h0, if_pos h1]
  show xs[i.toNat]? = _
  rw [List.getElem?_eq_getElem h]
end EV
namespace EV
open PySem PySem.Spec L2 SX
open PyProof.Rows hiding St
@[simp] theorem wk_shieldF (r : Res (D × List D)) (Q : D × List D → Prop) (t : Hid Q) : Wk (shield false r) Q t = Wk r fun o => Wf o.1.flat (.ok o) .stuck Q := by
  cases r with
  | ok o =>
    rw [wk_ok]
    show Wk (bif false || o.1.flat then .ok o else .stuck) Q t = Wf o.1.flat (.ok o) .stuck Q
    rw [Bool.false_or, wk_cond]
  | err c p =>
    refine propext ⟨fun ⟨_, h, _⟩ => ?_, fun ⟨_, h, _⟩ => (nomatch h)⟩
    have h' : (bif false || p.flat then .err c p else .stuck : Res (D × List D)) = _ := h
    cases hc : (false || p.flat) <;> rw [hc] at h' <;> cases h'
  | stuck => exact propext ⟨fun ⟨_, h, _⟩ => (nomatch h), fun ⟨_, h, _⟩ => (nomatch h)⟩
@[simp] theorem flat_str (s : List Nat) : (D.str s).flat = true := nr rfl
@[simp] theorem flat_int (i : Int) : (D.int i).flat = true := nr rfl
@[simp] theorem flat_non : D.non.flat = true := nr rfl
@[simp] theorem flat_bl (b : Bool) : (D.bl b).flat = true := nr rfl
theorem sort_strs0 {l : List (List Nat)} (h : l.length < 64) : bSort [.lst (l.map D.str)] = some (.lst ((sortS l).map D.str)) := by
  show ((dStrs (l.map D.str)).bind fun ss => if ss.length < 64 then some (D.lst ((sortS ss).map D.str)) else none) = _
  rw [sss]
  exact if_pos h
/-! ### names -/
def LETT : List Nat := [97, 98, 99, 100, 101, 102, 103, 104, 105, 106, 107, 108, 109, 110, 111, 112, 113, 114, 115, 116, 117, 118, 119, 120, 121, 122]
def SIGNS : List Nat := [97, 98, 99, 100, 101, 102, 103, 104, 105, 106, 107, 108, 109, 110, 111, 112, 113, 114, 115, 116, 117, 118, 119, 120, 121, 122, 48, 49, 50, 51, 52, 53, 54, 55, 56, 57]
def nameB (s : List Nat) : Bool := decide (1 ≤ s.length) && decide (s.length ≤ 12) && s.all (fun c => decide (c ∈ SIGNS)) && (match s with | c :: _ => decide (c ∈ LETT) | [] => false)
theorem nd_le {α : Type} [DecidableEq α] : ∀ {l m : List α}, l.Nodup → (∀ x, x ∈ l → x ∈ m) → l.length ≤ m.length
  | [], _, _, _ => Nat.zero_le _
  | x :: l, m, h, hm => by
    rw [List.nodup_cons] at h
    have := nd_le (l := l) (m := m.erase x) h.2 fun y hy => (List.mem_erase_of_ne fun e => h.1 (by rw [← e]; exact hy)).mpr (hm y (List.mem_cons_of_mem _ hy))
    rw [List.length_erase_of_mem (hm x List.mem_cons_self)] at this
    have hp : 0 < m.length := List.length_pos_of_mem (hm x List.mem_cons_self)
    rw [List.length_cons]
    omega
def NMS : List (List Nat) := (List.range 70).map fun k => 110 :: TL.numL k
theorem nms_nd : NMS.Nodup := by decide +kernel
theorem nms_ok : ∀ s, s ∈ NMS → nameB s = true := by decide +kernel
theorem nms_free {l : List (List Nat)} (h : l.length < 70) : ∃ s r, NMS.filter (fun s => !decide (s ∈ l)) = s :: r := by
  cases q : NMS.filter (fun s => !decide (s ∈ l)) with
  | cons s r => exact ⟨s, r, rfl⟩
  | nil =>
    have : ∀ s, s ∈ NMS → s ∈ l := fun s hs => by
      have := List.filter_eq_nil_iff.mp q s hs
      simpa using this
    have h2 := nd_le nms_nd this
    have h3 : NMS.length = 70 := by decide +kernel
    omega
theorem nms_len : NMS.length = 70 := by decide +kernel
theorem lett_signs : ∀ c, c ∈ LETT → c ∈ SIGNS := by decide +kernel
def grows (s : List Nat) : Prop := 1 ≤ s.length ∧ (∀ c, c ∈ s → c ∈ SIGNS) ∧ ∃ c r, s = c :: r ∧ c ∈ LETT
theorem grows_name {s : List Nat} (h : grows s) (hl : s.length ≤ 12) : nameB s = true := by
  obtain ⟨h1, h2, c, r, rfl, h3⟩ := h
  unfold nameB
  rw [decide_eq_true h1, decide_eq_true hl, List.all_eq_true.mpr fun x hx => decide_eq_true (h2 x hx)]
  show decide (c ∈ LETT) = true
  exact decide_eq_true h3
theorem grows_add {s : List Nat} {x : Nat} (h : grows s) (hx : x ∈ SIGNS) : grows (s ++ [x]) := by
  obtain ⟨h1, h2, c, r, rfl, h3⟩ := h
  refine ⟨by simp, fun y hy => ?_, c, r ++ [x], rfl, h3⟩
  rcases List.mem_append.mp hy with hy | hy
  · exact h2 y hy
  · rw [List.mem_singleton.mp hy]; exact hx
theorem grows_one {x : Nat} (h : x ∈ LETT) : grows [x] := ⟨by simp, fun z hz => by rw [List.mem_singleton.mp hz]; exact lett_signs x h, x, [], rfl, h⟩
theorem name_len {s : List Nat} (h : nameB s = true) : s.length ≤ 12 := by
  unfold nameB at h
  rw [Bool.and_eq_true, Bool.and_eq_true, Bool.and_eq_true, decide_eq_true_eq, decide_eq_true_eq] at h
  exact h.1.1.2
theorem in_letters0 : dAdd (.str LETT) (.str [48, 49, 50, 51, 52, 53, 54, 55, 56, 57]) = some (.str SIGNS) := rfl
def NmsI (l : List (List Nat)) : Prop := ∀ s, s ∈ l → nameB s = true
theorem str_num {k : Nat} (h : k < 1000000) : bStr [.int k] = some (.str (TL.numL k)) := by
  show (if 0 ≤ (k : Int) ∧ (k : Int) < 1000000 then some (D.str (TL.numL (k : Int).toNat)) else none) = _
  rw [if_pos ⟨by omega, by omega⟩, Int.toNat_natCast]
theorem num_len : ∀ k, k < 70 → (TL.numL k).length ≤ 100 := by decide +kernel
theorem sm_names {l : List (List Nat)} (h : NmsI l) : smL (l.map D.str) = true := smL_of fun d hd => by
  obtain ⟨s, hs, rfl⟩ := List.mem_map.mp hd
  have := name_len (h s hs)
  exact decide_eq_true (by omega)
theorem mores0 {x : D} (h : x ∈ [D.int 0, D.int 0, D.int 0, D.int 1, D.int 2, D.int 11]) : ∃ k : Nat, x = .int k ∧ k ≤ 11 := by
  simp only [List.mem_cons, List.not_mem_nil, or_false] at h
  rcases h with rfl | rfl | rfl | rfl | rfl | rfl
  · exact ⟨0, rfl, by omega⟩
  · exact ⟨0, rfl, by omega⟩
  · exact ⟨0, rfl, by omega⟩
  · exact ⟨1, rfl, by omega⟩
  · exact ⟨2, rfl, by omega⟩
  · exact ⟨11, rfl, by omega⟩
end EV

namespace EV
open PySem PySem.Spec L2 SX
open PyProof.Rows hiding St
/-! ### a loop over a list that is written out -/
def forNext (g : D → Env → Res Env) (B : SS) (ds : List D) (r : Fl × Env) : Res (Fl × Env) := match r.1 with
  | .nx => forL g B ds r.2
  | .cont => forL g B ds r.2
  | .brk => .ok (.nx, r.2)
  | .ret v => .ok (.ret v, r.2)
theorem wk_forC (g : D → Env → Res Env) (B : SS) (d : D) (ds : List D) (ρ : Env) (Q : Fl × Env → Prop) (t : Hid Q) : Wk (forL g B (d :: ds) ρ) Q t = Wk (g d ρ) fun ρ1 => Wk (B ρ1) fun r => Wk (forNext g B ds r) Q t := by
  have e : forL g B (d :: ds) ρ = (noErr (g d ρ) >>= fun ρ1 => B ρ1 >>= fun r => forNext g B ds r) := rfl
  rw [e, wk_bind, wk_noErr]
  exact wk_b0 fun ρ1 => wk_bind _ _ _ _
@[simp ↓] theorem wk_for0 (g : D → Env → Res Env) (B : SS) (ρ : Env) (Q : Fl × Env → Prop) (t : Hid Q) : Wk (forL g B [] ρ) Q t = Q (.nx, ρ) := wk_ok _ _ _
@[simp ↓] theorem wk_fN1 (g : D → Env → Res Env) (B : SS) (ds : List D) (ρ : Env) (Q : Fl × Env → Prop) (t : Hid Q) : Wk (forNext g B ds (.nx, ρ)) Q t = Wk (forL g B ds ρ) Q t := nr rfl
@[simp ↓] theorem wk_fN2 (g : D → Env → Res Env) (B : SS) (ds : List D) (ρ : Env) (Q : Fl × Env → Prop) (t : Hid Q) : Wk (forNext g B ds (.cont, ρ)) Q t = Wk (forL g B ds ρ) Q t := nr rfl
@[simp ↓] theorem wk_fN3 (g : D → Env → Res Env) (B : SS) (ds : List D) (ρ : Env) (Q : Fl × Env → Prop) (t : Hid Q) : Wk (forNext g B ds (.brk, ρ)) Q t = Q (.nx, ρ) := wk_ok _ _ _
@[simp ↓] theorem wk_fN4 (g : D → Env → Res Env) (B : SS) (ds : List D) (v : D) (ρ : Env) (Q : Fl × Env → Prop) (t : Hid Q) : Wk (forNext g B ds (.ret v, ρ)) Q t = Q (.ret v, ρ) := wk_ok _ _ _
/-! ### dicts as lists -/
theorem lookD_nil (k : Kd) : lookD [] k = none := rfl
theorem lookD_cons (p : Kd × D) (r : List (Kd × D)) (k : Kd) : lookD (p :: r) k = if p.1 = k then some p.2 else lookD r k := by
  unfold lookD
  rw [List.find?_cons]
  by_cases h : p.1 = k
  · rw [if_pos h, decide_eq_true h]; rfl
  · rw [if_neg h, decide_eq_false h]
theorem lookD_none {kds : List (Kd × D)} {k : Kd} : lookD kds k = none ↔ ∀ p, p ∈ kds → p.1 ≠ k := by
  induction kds with
  | nil => simp [lookD_nil]
  | cons p r ih =>
    rw [lookD_cons]
    by_cases h : p.1 = k
    · rw [if_pos h]
      exact ⟨fun z => (nomatch z), fun z => absurd h (z p List.mem_cons_self)⟩
    · rw [if_neg h, ih]
      exact ⟨fun z q hq => (List.mem_cons.mp hq).elim (fun e => e ▸ h) (z q), fun z q hq => z q (List.mem_cons_of_mem _ hq)⟩
theorem lookD_app {a b : List (Kd × D)} {k : Kd} (h : lookD a k = none) : lookD (a ++ b) k = lookD b k := by
  induction a with
  | nil => rfl
  | cons p r ih =>
    rw [lookD_cons] at h
    by_cases e : p.1 = k
    · rw [if_pos e] at h; cases h
    · rw [if_neg e] at h
      rw [List.cons_append, lookD_cons, if_neg e, ih h]
theorem any_look (k : Kd) : ∀ kds : List (Kd × D), (kds.any fun kv => decide (kv.1 = k)) = (lookD kds k).isSome
  | [] => rfl
  | p :: r => by
    rw [List.any_cons, lookD_cons]
    by_cases h : p.1 = k
    · rw [if_pos h, decide_eq_true h]; rfl
    · rw [if_neg h, decide_eq_false h, Bool.false_or, any_look k r]
theorem putD_new {kds : List (Kd × D)} {k : Kd} (d : D) (h : lookD kds k = none) : putD kds k d = kds ++ [(k, d)] := by
  unfold putD
  rw [any_look, h]
  exact if_neg (by decide)
theorem putD_old {kds : List (Kd × D)} {k : Kd} (d : D) (h : (lookD kds k).isSome = true) : putD kds k d = kds.map fun kv => if kv.1 = k then (kv.1, d) else kv := by
  unfold putD
  rw [any_look, h]
  exact if_pos rfl
theorem putD_last {kds : List (Kd × D)} {k : Kd} {d0 : D} (d : D) (h : lookD kds k = none) : putD (kds ++ [(k, d0)]) k d = kds ++ [(k, d)] := by
  have hs : (lookD (kds ++ [(k, d0)]) k).isSome = true := by
    rw [lookD_app h, lookD_cons, if_pos rfl]
    rfl
  rw [putD_old d hs, List.map_append]
  congr 1
  · rw [lookD_none] at h
    conv => rhs; rw [← List.map_id kds]
    exact List.map_congr_left fun p hp => if_neg (h p hp)
  · show [if k = k then (k, d) else (k, d0)] = _
    rw [if_pos rfl]
theorem look_range {f : Nat → D} {n : Nat} {t : Int} (h0 : 0 ≤ t) (h1 : t < n) : lookD ((List.range n).map fun (j : Nat) => (Sum.inl (j : Int), f j)) (.inl t) = some (f t.toNat) := by
  induction n with
  | zero => omega
  | succ n ih =>
    rw [List.range_succ, List.map_append]
    by_cases h : t < n
    · have := ih h
      generalize ((List.range n).map fun (j : Nat) => ((Sum.inl (j : Int), f j) : Kd × D)) = A at *
      have ha : ∀ (b : List (Kd × D)), lookD (A ++ b) (.inl t) = lookD A (.inl t) := fun b => by
        clear ih h0 h1 h
        induction A with
        | nil => cases this
        | cons p r ih =>
          rw [lookD_cons] at this
          rw [List.cons_append, lookD_cons, lookD_cons]
          by_cases e : p.1 = Sum.inl t
          · rw [if_pos e, if_pos e]
          · rw [if_neg e] at this
            rw [if_neg e, if_neg e, ih this]
      rw [ha, this]
    · have e : t = (n : Int) := by omega
      subst e
      rw [lookD_app]
      · show lookD [(Sum.inl (n : Int), f n)] (.inl (n : Int)) = _
        rw [lookD_cons, if_pos rfl, Int.toNat_natCast]
      · rw [lookD_none]
        intro p hp
        obtain ⟨j, hj, rfl⟩ := List.mem_map.mp hp
        rw [List.mem_range] at hj
        intro z
        have : (j : Int) = (n : Int) := by injection z
        omega
theorem look_rangeN {f : Nat → D} {n : Nat} : lookD ((List.range n).map fun (j : Nat) => (Sum.inl (j : Int), f j)) (.inl (n : Int)) = none := by
  rw [lookD_none]
  intro p hp
  obtain ⟨j, hj, rfl⟩ := List.mem_map.mp hp
  rw [List.mem_range] at hj
  intro z
  have : (j : Int) = (n : Int) := by injection z
  omega
theorem enumL_ix (ds : List D) : ∀ (n : Nat), enumL n ds = (List.range ds.length).map fun (k : Nat) => .tup [.int ((n + k : Nat) : Int), ds.getD k .non] := by
  induction ds with
  | nil => intro n; rfl
  | cons d ds ih =>
    intro n
    rw [List.length_cons, List.range_succ_eq_map, List.map_cons, List.map_map]
    show D.tup [.int (n : Nat), d] :: enumL (n + 1) ds = _
    rw [ih (n + 1)]
    congr 1
    apply List.map_congr_left
    intro k _
    show D.tup [.int ((n + 1 + k : Nat) : Int), ds.getD k .non] = .tup [.int ((n + (k + 1) : Nat) : Int), (d :: ds).getD (k + 1) .non]
    rw [List.getD_cons_succ]
    congr 3
    omega
theorem enum_map {α : Type} [Inhabited α] (f : α → D) (xs : List α) : enumL 0 (xs.map f) = (List.range xs.length).map fun (k : Nat) => .tup [.int (k : Int), f (nth xs k)] := by
  rw [enumL_ix, List.length_map]
  apply List.map_congr_left
  intro k hk
  rw [List.mem_range] at hk
  rw [Nat.zero_add, List.getD_eq_getElem?_getD, List.getElem?_map, List.getElem?_eq_getElem hk, nth_get hk]
  rfl
end EV

namespace EV
open PySem PySem.Spec L2 SX
open PyProof.Rows hiding St
/-! ### tables of least things -/
section
variable {κ β : Type} [DecidableEq κ]
def lookM (M : List (κ × β)) (k : κ) : Option β := (M.find? fun p => decide (p.1 = k)).map (·.2)
def putM (M : List (κ × β)) (k : κ) (b : β) : List (κ × β) := if (M.any fun p => decide (p.1 = k)) = true then M.map (fun p => if p.1 = k then (p.1, b) else p) else M ++ [(k, b)]
theorem lookM_nil (k : κ) : lookM ([] : List (κ × β)) k = none := rfl
theorem lookM_cons (p : κ × β) (r : List (κ × β)) (k : κ) : lookM (p :: r) k = if p.1 = k then some p.2 else lookM r k := by
  unfold lookM
  rw [List.find?_cons]
  by_cases h : p.1 = k
  · rw [if_pos h, decide_eq_true h]; rfl
  · rw [if_neg h, decide_eq_false h]
theorem lookM_none {M : List (κ × β)} {k : κ} : lookM M k = none ↔ ∀ p, p ∈ M → p.1 ≠ k := by
  induction M with
  | nil => simp [lookM_nil]
  | cons p r ih =>
    rw [lookM_cons]
    by_cases h : p.1 = k
    · rw [if_pos h]
      exact ⟨fun z => (nomatch z), fun z => absurd h (z p List.mem_cons_self)⟩
    · rw [if_neg h, ih]
      exact ⟨fun z q hq => (List.mem_cons.mp hq).elim (fun e => e ▸ h) (z q), fun z q hq => z q (List.mem_cons_of_mem _ hq)⟩
theorem lookM_some {M : List (κ × β)} {k : κ} {b : β} (h : lookM M k = some b) : (k, b) ∈ M := by
  induction M with
  | nil => cases h
  | cons p r ih =>
    rw [lookM_cons] at h
    by_cases e : p.1 = k
    · rw [if_pos e] at h
      cases h
      subst e
      exact List.mem_cons_self
    · rw [if_neg e] at h
      exact List.mem_cons_of_mem _ (ih h)
theorem lookM_of {M : List (κ × β)} (nd : (M.map (·.1)).Nodup) {p : κ × β} (h : p ∈ M) : lookM M p.1 = some p.2 := by
  induction M with
  | nil => cases h
  | cons q r ih =>
    rw [List.map_cons, List.nodup_cons] at nd
    rw [lookM_cons]
    rcases List.mem_cons.mp h with rfl | h
    · rw [if_pos rfl]
    · rw [if_neg fun e => nd.1 (by rw [e]; exact List.mem_map_of_mem h)]
      exact ih nd.2 h
theorem anyM (k : κ) : ∀ M : List (κ × β), (M.any fun p => decide (p.1 = k)) = (lookM M k).isSome
  | [] => rfl
  | p :: r => by
    rw [List.any_cons, lookM_cons]
    by_cases h : p.1 = k
    · rw [if_pos h, decide_eq_true h]; rfl
    · rw [if_neg h, decide_eq_false h, Bool.false_or, anyM k r]
theorem putM_keys (M : List (κ × β)) (k : κ) (b : β) : (putM M k b).map (·.1) = if (lookM M k).isSome = true then M.map (·.1) else M.map (·.1) ++ [k] := by
  unfold putM
  rw [anyM]
  split
  · rw [List.map_map]
    apply List.map_congr_left
    intro p _
    show (if p.1 = k then (p.1, b) else p).1 = p.1
    split <;> rfl
  · rw [List.map_append]; rfl
theorem putM_nodup {M : List (κ × β)} (nd : (M.map (·.1)).Nodup) (k : κ) (b : β) : ((putM M k b).map (·.1)).Nodup := by
  rw [putM_keys]
  split
  · exact nd
  · rename_i h
    rw [List.nodup_append]
    refine ⟨nd, by simp, fun a ha c hc => ?_⟩
    rw [List.mem_singleton.mp hc]
    intro e
    subst e
    obtain ⟨p, hp, rfl⟩ := List.mem_map.mp ha
    rw [lookM_of nd hp] at h
    exact h rfl
theorem putM_mem {M : List (κ × β)} {k : κ} {b : β} {p : κ × β} (h : p ∈ putM M k b) : p = (k, b) ∨ (p ∈ M ∧ p.1 ≠ k) := by
  unfold putM at h
  rw [anyM] at h
  split at h
  · obtain ⟨q, hq, e⟩ := List.mem_map.mp h
    by_cases z : q.1 = k
    · rw [if_pos z] at e
      subst e
      exact .inl (by rw [z])
    · rw [if_neg z] at e
      subst e
      exact .inr ⟨hq, z⟩
  · rename_i hn
    have hn' : lookM M k = none := by
      cases q : lookM M k with
      | none => rfl
      | some _ => rw [q] at hn; exact absurd rfl hn
    rcases List.mem_append.mp h with h | h
    · exact .inr ⟨h, lookM_none.mp hn' p h⟩
    · exact .inl (List.mem_singleton.mp h)
theorem putM_at (M : List (κ × β)) (k : κ) (b : β) : (k, b) ∈ putM M k b := by
  unfold putM
  rw [anyM]
  split
  · rename_i h
    cases q : lookM M k with
    | none => rw [q] at h; cases h
    | some c => exact List.mem_map.mpr ⟨(k, c), lookM_some q, if_pos rfl⟩
  · exact List.mem_append_right _ List.mem_cons_self
theorem putM_keep {M : List (κ × β)} {k : κ} {b : β} {p : κ × β} (h : p ∈ M) (n : p.1 ≠ k) : p ∈ putM M k b := by
  unfold putM
  split
  · exact List.mem_map.mpr ⟨p, h, if_neg n⟩
  · exact List.mem_append_left _ h
theorem putM_len (M : List (κ × β)) (k : κ) (b : β) : (putM M k b).length ≤ M.length + 1 := by
  unfold putM
  split
  · rw [List.length_map]; omega
  · rw [List.length_append, List.length_singleton]; omega

/-- an order -/
structure Ord (lt : β → β → Bool) : Prop where
  irr : ∀ a, lt a a = false
  tr : ∀ a b c, lt a b = true → lt b c = true → lt a c = true
variable {lt : β → β → Bool}
/-- .. whose unlike things are ordered -/
def mn (lt : β → β → Bool) (b o : β) : β := if lt o b = true then o else b
def insM (lt : β → β → Bool) (M : List (κ × β)) (k : κ) (b : β) : List (κ × β) := putM M k (mn lt b ((lookM M k).getD b))
/-- the table holds, at each key of C, one of the least -/
structure MinOf (lt : β → β → Bool) (M C : List (κ × β)) : Prop where
  nd : (M.map (·.1)).Nodup
  sub : ∀ p, p ∈ M → p ∈ C ∧ ∀ q, q ∈ C → q.1 = p.1 → lt q.2 p.2 = false
  cov : ∀ q, q ∈ C → ∃ p, p ∈ M ∧ p.1 = q.1
theorem MinOf.nil : MinOf lt ([] : List (κ × β)) [] := ⟨List.nodup_nil, (fun _ h => nomatch h), (fun _ h => nomatch h)⟩
theorem MinOf.ins (o : Ord lt) (tot : ∀ a b, lt a b = false → lt b a = false → ∀ c, lt c a = lt c b) {M C : List (κ × β)} (h : MinOf lt M C) (k : κ) (b : β) : MinOf lt (insM lt M k b) (C ++ [(k, b)]) := by
  have nt : ∀ x y z : β, lt x y = false → lt y z = false → lt x z = false := fun x y z h1 h2 => by
    cases q : lt x z with
    | false => rfl
    | true =>
      cases r : lt y x with
      | true => have := o.tr y x z r q; rw [h2] at this; cases this
      | false =>
        -- x and y are alike
        have := tot x y h1 r
        cases s : lt z x with
        | true => have := o.tr x z x q s; rw [o.irr] at this; cases this
        | false =>
          cases s2 : lt z y with
          | true => have e := this z; rw [s, s2] at e; cases e
          | false =>
            have e := tot y z h2 s2 x
            rw [h1, q] at e
            cases e
  refine ⟨putM_nodup h.nd k _, fun p hp => ?_, fun q hq => ?_⟩
  · rcases putM_mem hp with rfl | ⟨hp, hn⟩
    · cases e : lookM M k with
      | none =>
        have hk := lookM_none.mp e
        have em : mn lt b ((none : Option β).getD b) = b := by
          show (if lt b b = true then b else b) = b
          split <;> rfl
        rw [em]
        refine ⟨List.mem_append_right _ List.mem_cons_self, fun q hq eq => ?_⟩
        rcases List.mem_append.mp hq with hq | hq
        · obtain ⟨p', hp', e'⟩ := h.cov q hq
          exact absurd (e'.trans eq) (hk p' hp')
        · rw [List.mem_singleton.mp hq]
          exact o.irr b
      | some c =>
        have hc := h.sub _ (lookM_some e)
        show (k, mn lt b c) ∈ C ++ [(k, b)] ∧ ∀ q, q ∈ C ++ [(k, b)] → q.1 = k → lt q.2 (mn lt b c) = false
        unfold mn
        by_cases z : lt c b = true
        · rw [if_pos z]
          refine ⟨List.mem_append_left _ hc.1, fun q hq eq => ?_⟩
          rcases List.mem_append.mp hq with hq | hq
          · exact hc.2 q hq eq
          · rw [List.mem_singleton.mp hq]
            cases s : lt b c with
            | false => rfl
            | true => have := o.tr b c b s z; rw [o.irr] at this; cases this
        · rw [if_neg z]
          have z : lt c b = false := by simpa using z
          refine ⟨List.mem_append_right _ List.mem_cons_self, fun q hq eq => ?_⟩
          rcases List.mem_append.mp hq with hq | hq
          · exact nt _ _ _ (hc.2 q hq eq) z
          · rw [List.mem_singleton.mp hq]
            exact o.irr b
    · obtain ⟨h1, h2⟩ := h.sub p hp
      refine ⟨List.mem_append_left _ h1, fun q hq eq => ?_⟩
      rcases List.mem_append.mp hq with hq | hq
      · exact h2 q hq eq
      · rw [List.mem_singleton.mp hq] at eq
        exact absurd eq.symm hn
  · rcases List.mem_append.mp hq with hq | hq
    · obtain ⟨p, hp, e⟩ := h.cov q hq
      by_cases z : p.1 = k
      · exact ⟨_, putM_at M k _, z.symm.trans e⟩
      · exact ⟨p, putM_keep hp z, e⟩
    · rw [List.mem_singleton.mp hq]
      exact ⟨_, putM_at M k _, rfl⟩
end
/-! ### as dicts -/
def encM {κ β : Type} (ek : κ → Kd) (ev : β → D) (M : List (κ × β)) : List (Kd × D) := M.map fun p => (ek p.1, ev p.2)
section
variable {κ β : Type} [DecidableEq κ] {ek : κ → Kd} {ev : β → D}
theorem encM_len (M : List (κ × β)) : (encM ek ev M).length = M.length := List.length_map ..
theorem encM_look (inj : ∀ a b, ek a = ek b → a = b) (M : List (κ × β)) (k : κ) : lookD (encM ek ev M) (ek k) = (lookM M k).map ev := by
  induction M with
  | nil => rfl
  | cons p r ih =>
    show lookD ((ek p.1, ev p.2) :: encM ek ev r) (ek k) = _
    rw [lookD_cons, lookM_cons]
    by_cases h : p.1 = k
    · rw [if_pos h, if_pos (congrArg ek h)]; rfl
    · rw [if_neg h, if_neg fun e => h (inj _ _ e)]
      exact ih
theorem encM_put (inj : ∀ a b, ek a = ek b → a = b) (M : List (κ × β)) (k : κ) (b : β) : putD (encM ek ev M) (ek k) (ev b) = encM ek ev (putM M k b) := by
  have hl := encM_look (ev := ev) inj M k
  unfold putD putM
  rw [any_look, hl, anyM, Option.isSome_map]
  split
  · unfold encM
    rw [List.map_map, List.map_map]
    apply List.map_congr_left
    intro p _
    show (if ek p.1 = ek k then (ek p.1, ev b) else (ek p.1, ev p.2)) = (ek (if p.1 = k then (p.1, b) else p).1, ev (if p.1 = k then (p.1, b) else p).2)
    by_cases h : p.1 = k
    · rw [if_pos h, if_pos (congrArg ek h)]
    · rw [if_neg h, if_neg fun e => h (inj _ _ e)]
  · unfold encM
    rw [List.map_append]
    rfl
end
/-! ### tuples of numbers in order -/
def ltI (a b : List Int) : Bool := D.ltb (.tup (a.map D.int)) (.tup (b.map D.int))
theorem ltI_nil_nil : ltI [] [] = false := rfl
theorem ltI_cons (x y : Int) (a b : List Int) : ltI (x :: a) (y :: b) = (decide (x < y) || (!decide (y < x) && ltI a b)) := by
  show PyProof.Rows.lexLt itemOrd (Sum.inl 1 :: Sum.inl x :: toksL (a.map D.int)) (Sum.inl 1 :: Sum.inl y :: toksL (b.map D.int)) = _
  rw [lex_self, lex_cons]
  rfl
theorem ltI_ord : Ord ltI := ⟨fun a => lex_irrefl _, fun a b c h1 h2 => lex_trans _ _ _ h1 h2⟩
theorem toks_ints : ∀ {a b : List Int}, toksL (a.map D.int) = toksL (b.map D.int) → a = b
  | [], [], _ => rfl
  | [], y :: b, h => by
    have h' : [Sum.inl 0] = Sum.inl 1 :: Sum.inl y :: toksL (b.map D.int) := h
    injection h' with h1 h2
    cases h2
  | x :: a, [], h => by
    have h' : Sum.inl 1 :: Sum.inl x :: toksL (a.map D.int) = [Sum.inl 0] := h
    injection h' with h1 h2
    cases h2
  | x :: a, y :: b, h => by
    have h' : Sum.inl 1 :: Sum.inl x :: toksL (a.map D.int) = Sum.inl 1 :: Sum.inl y :: toksL (b.map D.int) := h
    injection h' with h1 h2
    injection h2 with h3 h4
    injection h3 with h3
    rw [h3, toks_ints h4]
theorem ltI_tot {a b : List Int} (h1 : ltI a b = false) (h2 : ltI b a = false) : a = b := toks_ints (lex_total _ _ h1 h2)
theorem ltI_alike (a b : List Int) (h1 : ltI a b = false) (h2 : ltI b a = false) (c : List Int) : ltI c a = ltI c b := by rw [ltI_tot h1 h2]
theorem ltI_snoc : ∀ (a b : List Int) (x : Int), a.length = b.length → ltI (a ++ [x]) (b ++ [x]) = ltI a b
  | [], [], x, _ => by
    show ltI [x] [x] = false
    exact ltI_ord.irr _
  | y :: a, z :: b, x, h => by
    show ltI (y :: (a ++ [x])) (z :: (b ++ [x])) = _
    rw [ltI_cons, ltI_cons, ltI_snoc a b x (by simpa using h)]
  | [], _ :: _, _, h => by simp at h
  | _ :: _, [], _, h => by simp at h
theorem ints_top (a : List Int) : (D.tup (a.map D.int)).top = true := rfl
theorem alk_ints : ∀ {a b : List Int}, a.length = b.length → alkL (a.map D.int) (b.map D.int) = true
  | [], [], _ => rfl
  | _ :: a, _ :: b, h => by
    show ((D.int _).alk (.int _) && alkL (a.map D.int) (b.map D.int)) = true
    rw [alk_ints (by simpa using h)]
    rfl
  | [], _ :: _, h => by simp at h
  | _ :: _, [], h => by simp at h
theorem min2_ints {a b : List Int} (h : a.length = b.length) : bMin2A [.tup (a.map D.int), .tup (b.map D.int)] = some (.tup ((mn ltI a b).map D.int)) := by
  have e1 : bMin2 [.tup (a.map D.int), .tup (b.map D.int)] = none := rfl
  have e2 : alkAll [.tup (a.map D.int), .tup (b.map D.int)] = true := by
    have d1 := dep_ints0 a
    have d2 := dep_ints0 b
    have l1 := lay_ints0 a
    have l2 := lay_ints0 b
    unfold alkAll
    have h1 : layL [.tup (a.map D.int), .tup (b.map D.int)] = true := by
      show (layL (a.map D.int) && (layL (b.map D.int) && true)) = true
      rw [l1, l2]; rfl
    have h2 : depL [.tup (a.map D.int), .tup (b.map D.int)] ≤ 64 := by
      show max (depL (a.map D.int) + 1) (max (depL (b.map D.int) + 1) 0) ≤ 64
      rw [d1, d2]; decide
    rw [h1, decide_eq_true h2]
    show ((alkL (a.map D.int) (a.map D.int) && (alkL (a.map D.int) (b.map D.int) && true)) && ((alkL (b.map D.int) (a.map D.int) && (alkL (b.map D.int) (b.map D.int) && true)) && true)) = true
    rw [alk_ints rfl, alk_ints h, alk_ints h.symm, alk_ints rfl]
    rfl
  unfold bMin2A
  rw [e1]
  show (if ((D.tup (a.map D.int)).top && (D.tup (b.map D.int)).top && alkAll [.tup (a.map D.int), .tup (b.map D.int)]) = true then some (if D.ltb (.tup (b.map D.int)) (.tup (a.map D.int)) = true then D.tup (b.map D.int) else D.tup (a.map D.int)) else none) = _
  rw [e2, ints_top, ints_top, if_pos (by rfl)]
  unfold mn ltI
  split <;> rfl
/-- the least of several -/
def bestI (x : List Int) (xs : List (List Int)) : List Int := xs.foldl (fun a y => if ltI y a = true then y else a) x
theorem bestI_ok : ∀ (xs : List (List Int)) (x : List Int), bestI x xs ∈ x :: xs ∧ ∀ y, y ∈ x :: xs → ltI y (bestI x xs) = false
  | [], x => ⟨List.mem_cons_self, fun y hy => by
    rw [List.mem_singleton.mp hy]
    exact ltI_ord.irr x⟩
  | z :: xs, x => by
    have e : bestI x (z :: xs) = bestI (if ltI z x = true then z else x) xs := rfl
    rw [e]
    obtain ⟨h1, h2⟩ := bestI_ok xs (if ltI z x = true then z else x)
    have nt : ∀ a b c : List Int, ltI a b = false → ltI b c = false → ltI a c = false := fun a b c q1 q2 => by
      cases q : ltI a c with
      | false => rfl
      | true =>
        cases r : ltI b a with
        | true => have := ltI_ord.tr _ _ _ r q; rw [q2] at this; cases this
        | false =>
          have := ltI_tot q1 r
          subst this
          rw [q2] at q
          cases q
    by_cases c : ltI z x = true
    · rw [if_pos c] at h1 h2 ⊢
      refine ⟨(List.mem_cons.mp h1).elim (fun e => by rw [e]; exact List.mem_cons_of_mem _ List.mem_cons_self) fun h => List.mem_cons_of_mem _ (List.mem_cons_of_mem _ h), fun y hy => ?_⟩
      rcases List.mem_cons.mp hy with rfl | hy
      · refine nt _ z _ ?_ (h2 z List.mem_cons_self)
        cases q : ltI y z with
        | false => rfl
        | true => have := ltI_ord.tr _ _ _ q c; rw [ltI_ord.irr] at this; cases this
      · exact h2 y hy
    · rw [if_neg c] at h1 h2 ⊢
      have c : ltI z x = false := by simpa using c
      refine ⟨(List.mem_cons.mp h1).elim (fun e => by rw [e]; exact List.mem_cons_self) fun h => List.mem_cons_of_mem _ (List.mem_cons_of_mem _ h), fun y hy => ?_⟩
      rcases List.mem_cons.mp hy with rfl | hy
      · exact h2 y List.mem_cons_self
      · rcases List.mem_cons.mp hy with rfl | hy
        · exact nt _ x _ c (h2 x List.mem_cons_self)
        · exact h2 y (List.mem_cons_of_mem _ hy)
theorem bestD_ints : ∀ (xs : List (List Int)) (x : List Int), bestD D.ltb (.tup (x.map D.int)) (xs.map fun y => .tup (y.map D.int)) = .tup ((bestI x xs).map D.int)
  | [], x => rfl
  | y :: xs, x => by
    show bestD D.ltb (if D.ltb (.tup (y.map D.int)) (.tup (x.map D.int)) = true then D.tup (y.map D.int) else D.tup (x.map D.int)) (xs.map fun y => .tup (y.map D.int)) = _
    have e : (if D.ltb (.tup (y.map D.int)) (.tup (x.map D.int)) = true then D.tup (y.map D.int) else D.tup (x.map D.int)) = .tup ((if ltI y x = true then y else x).map D.int) := by
      show (if ltI y x = true then _ else _) = _
      split <;> rfl
    rw [e, bestD_ints xs]
    rfl
theorem alkAll_ints {n : Nat} {xs : List (List Int)} (h : ∀ x, x ∈ xs → x.length = n) : alkAll (xs.map fun y => .tup (y.map D.int)) = true := by
  unfold alkAll
  have h1 : layL (xs.map fun y => D.tup (y.map D.int)) = true := puL_lay _ (puL_of fun d hd => by obtain ⟨y, _, rfl⟩ := List.mem_map.mp hd; exact pu_ints y)
  have h2 : depL (xs.map fun y => D.tup (y.map D.int)) ≤ 64 := depL_le fun d hd => by
    obtain ⟨y, _, rfl⟩ := List.mem_map.mp hd
    show depL _ + 1 ≤ 64
    rw [dep_ints0]
    decide
  rw [h1, decide_eq_true h2]
  refine List.all_eq_true.mpr fun a ha => List.all_eq_true.mpr fun b hb => ?_
  obtain ⟨y, hy, rfl⟩ := List.mem_map.mp ha
  obtain ⟨z, hz, rfl⟩ := List.mem_map.mp hb
  exact alk_ints ((h y hy).trans (h z hz).symm)
theorem minV_ints {κ : Type} {ek : κ → Kd} {n : Nat} {p : κ × List Int} {L : List (κ × List Int)} (h : ∀ q, q ∈ p :: L → q.2.length = n) : minV (.dk (encM ek (fun y : List Int => .tup (y.map D.int)) (p :: L))) = some (.tup ((bestI p.2 (L.map (·.2))).map D.int)) := by
  have e : (encM ek (fun y : List Int => D.tup (y.map D.int)) (p :: L)).map (·.2) = (.tup (p.2.map D.int)) :: (L.map (·.2)).map fun y => .tup (y.map D.int) := by
    unfold encM
    rw [List.map_map, List.map_cons, List.map_map]
    rfl
  have key : ∀ x : List Int, x ∈ p.2 :: L.map (·.2) → x.length = n := fun x hx => by
    rcases List.mem_cons.mp hx with e | hx
    · rw [e]; exact h p List.mem_cons_self
    · obtain ⟨q, hq, e⟩ := List.mem_map.mp hx
      rw [← e]
      exact h q (List.mem_cons_of_mem _ hq)
  have ha : alkAll (.tup (p.2.map D.int) :: (L.map (·.2)).map fun y => .tup (y.map D.int)) = true := alkAll_ints key
  show (match (encM ek (fun y : List Int => D.tup (y.map D.int)) (p :: L)).map (·.2) with
    | x :: xs => if alkAll (x :: xs) = true then some (bestD D.ltb x xs) else none
    | [] => none) = _
  rw [e]
  show (if alkAll (.tup (p.2.map D.int) :: (L.map (·.2)).map fun y => .tup (y.map D.int)) = true then some (bestD D.ltb (.tup (p.2.map D.int)) ((L.map (·.2)).map fun y => .tup (y.map D.int))) else none) = _
  rw [if_pos ha, bestD_ints]
theorem zipL_zip0 {α β : Type} (f : α → D) (g : β → D) : ∀ (as : List α) (bs : List β), zipL (as.map f) (bs.map g) = (as.zip bs).map fun p => .tup [f p.1, g p.2]
  | [], bs => by cases bs <;> rfl
  | _ :: _, [] => rfl
  | a :: as, b :: bs => by
    show D.tup [f a, g b] :: zipL (as.map f) (bs.map g) = _
    rw [zipL_zip0 f g as bs]
    rfl
theorem okKs_int {β : Type} {ev : β → D} (M : List (Int × β)) : okKs (encM Sum.inl ev M) = true := List.all_eq_true.mpr fun p hp => by
  obtain ⟨q, _, rfl⟩ := List.mem_map.mp hp
  rfl
theorem keys_int {β : Type} {ev : β → D} (M : List (Int × β)) : (encM Sum.inl ev M).map (fun kv => kdD kv.1) = M.map fun p => .int p.1 := by
  unfold encM
  rw [List.map_map]
  rfl
end EV

namespace EV
open PySem PySem.Spec L2 SX
open PyProof.Rows hiding St
/-! ### tables with pairs as keys, as dicts -/
def encT {β : Type} (ev : β → D) (M : List ((Int × Int) × β)) : List (List Int × D) := M.map fun p => ([p.1.1, p.1.2], ev p.2)
section
variable {β : Type} {ev : β → D}
theorem encT_len (M : List ((Int × Int) × β)) : (encT ev M).length = M.length := List.length_map ..
theorem key2_inj {a b : Int × Int} (h : [a.1, a.2] = [b.1, b.2]) : a = b := by
  obtain ⟨a1, a2⟩ := a
  obtain ⟨b1, b2⟩ := b
  simp at h
  rw [h.1, h.2]
theorem lookT_cons (p : List Int × D) (r : List (List Int × D)) (k : List Int) : lookT (p :: r) k = if p.1 = k then some p.2 else lookT r k := by
  unfold lookT
  rw [List.find?_cons]
  by_cases h : p.1 = k
  · rw [if_pos h, decide_eq_true h]; rfl
  · rw [if_neg h, decide_eq_false h]
theorem encT_look (M : List ((Int × Int) × β)) (a b : Int) : lookT (encT ev M) [a, b] = (lookM M (a, b)).map ev := by
  induction M with
  | nil => rfl
  | cons p r ih =>
    show lookT (([p.1.1, p.1.2], ev p.2) :: encT ev r) [a, b] = _
    rw [lookT_cons, lookM_cons]
    by_cases h : p.1 = (a, b)
    · rw [if_pos h, if_pos (by rw [h])]; rfl
    · rw [if_neg h, if_neg fun e => h (key2_inj (b := (a, b)) e)]
      exact ih
theorem encT_put (M : List ((Int × Int) × β)) (a c : Int) (b : β) : putT (encT ev M) [a, c] (ev b) = encT ev (putM M (a, c) b) := by
  have hl := encT_look (ev := ev) M a c
  unfold putT putM
  rw [hl, anyM, Option.isSome_map]
  split
  · unfold encT
    rw [List.map_map, List.map_map]
    apply List.map_congr_left
    intro p _
    show (if [p.1.1, p.1.2] = [a, c] then ([p.1.1, p.1.2], ev b) else ([p.1.1, p.1.2], ev p.2)) = ([(if p.1 = (a, c) then (p.1, b) else p).1.1, (if p.1 = (a, c) then (p.1, b) else p).1.2], ev (if p.1 = (a, c) then (p.1, b) else p).2)
    by_cases h : p.1 = (a, c)
    · rw [if_pos h, if_pos (by rw [h])]
    · rw [if_neg h, if_neg fun e => h (key2_inj (b := (a, c)) e)]
  · unfold encT
    rw [List.map_append]
    rfl
theorem keys_T (M : List ((Int × Int) × β)) : keysT (encT ev M) = M.map fun p => .tup [.int p.1.1, .int p.1.2] := by
  unfold keysT encT
  rw [List.map_map]
  rfl
theorem encT_empty (M : List ((Int × Int) × β)) : (encT ev M).isEmpty = M.isEmpty := by cases M <;> rfl
end
/-! ### pairs of a number and a tuple of numbers, in order -/
abbrev Pr := Int × List Int
def prD (p : Pr) : D := .tup [.int p.1, .tup (p.2.map D.int)]
def ltP (a b : Pr) : Bool := D.ltb (prD a) (prD b)
theorem ltP_ord : Ord ltP := ⟨fun a => lex_irrefl _, fun a b c h1 h2 => lex_trans _ _ _ h1 h2⟩
theorem ltP_alike (a b : Pr) (h1 : ltP a b = false) (h2 : ltP b a = false) (c : Pr) : ltP c a = ltP c b := by
  have e : (prD a).toks = (prD b).toks := lex_total _ _ h1 h2
  show PyProof.Rows.lexLt itemOrd (prD c).toks (prD a).toks = PyProof.Rows.lexLt itemOrd (prD c).toks (prD b).toks
  rw [e]
theorem lex_app : ∀ {a b s : List (Int ⊕ List Nat)}, a.length = b.length → PyProof.Rows.lexLt itemOrd (a ++ s) (b ++ s) = PyProof.Rows.lexLt itemOrd a b
  | [], [], s, _ => by
    show PyProof.Rows.lexLt itemOrd s s = _
    rw [lex_irrefl]
    rfl
  | x :: a, y :: b, s, h => by
    have ih := lex_app (a := a) (b := b) (s := s) (by simpa using h)
    rw [List.cons_append, List.cons_append]
    refine (lex_cons (O := itemOrd) x y (a ++ s) (b ++ s)).trans (Eq.trans ?_ (lex_cons (O := itemOrd) x y a b).symm)
    rw [ih]
  | [], _ :: _, _, h => by simp at h
  | _ :: _, [], _, h => by simp at h
theorem toks_len : ∀ {a b : List Int}, a.length = b.length → (toksL (a.map D.int)).length = (toksL (b.map D.int)).length
  | [], [], _ => rfl
  | x :: a, y :: b, h => by
    show (toksL (a.map D.int)).length + 1 + 1 = (toksL (b.map D.int)).length + 1 + 1
    rw [toks_len (a := a) (b := b) (by simpa using h)]
  | [], _ :: _, h => by simp at h
  | _ :: _, [], h => by simp at h
theorem ltP_eq {a b : Pr} (h : a.2.length = b.2.length) : ltP a b = (decide (a.1 < b.1) || (!decide (b.1 < a.1) && ltI a.2 b.2)) := by
  obtain ⟨m, t⟩ := a
  obtain ⟨m', t'⟩ := b
  show PyProof.Rows.lexLt itemOrd (Sum.inl 1 :: Sum.inl m :: Sum.inl 1 :: (toksL (t.map D.int) ++ [Sum.inl 0])) (Sum.inl 1 :: Sum.inl m' :: Sum.inl 1 :: (toksL (t'.map D.int) ++ [Sum.inl 0])) = _
  rw [lex_self, lex_cons, lex_self, lex_app (toks_len h)]
  rfl
theorem ltP_tot {a b : Pr} (h : a.2.length = b.2.length) (h1 : ltP a b = false) (h2 : ltP b a = false) : a = b := by
  rw [ltP_eq h] at h1
  rw [ltP_eq h.symm] at h2
  obtain ⟨m, t⟩ := a
  obtain ⟨m', t'⟩ := b
  simp only [Bool.or_eq_false_iff, decide_eq_false_iff_not, Bool.and_eq_false_iff, Bool.not_eq_false'] at h1 h2
  have em : m = m' := by omega
  subst em
  have e1 : ltI t t' = false := by
    rcases h1.2 with z | z
    · simp at z
    · exact z
  have e2 : ltI t' t = false := by
    rcases h2.2 with z | z
    · simp at z
    · exact z
  rw [ltI_tot e1 e2]
theorem ltP_snoc {a b : Pr} (h : a.2.length = b.2.length) (d u : Int) : ltP (a.1 + d, a.2 ++ [u]) (b.1 + d, b.2 ++ [u]) = ltP a b := by
  rw [ltP_eq h, ltP_eq (by simp [h]), ltI_snoc _ _ _ h]
  simp
end EV

namespace EV
open PySem PySem.Spec L2 SX
open PyProof.Rows hiding St
/-! ### the least of several -/
def minI (x : Int) (xs : List Int) : Int := xs.foldl (fun a y => if y < a then y else a) x
theorem minI_ok : ∀ (xs : List Int) (x : Int), minI x xs ∈ x :: xs ∧ ∀ y, y ∈ x :: xs → minI x xs ≤ y
  | [], x => ⟨List.mem_cons_self, fun y hy => by rw [List.mem_singleton.mp hy]; exact Int.le_refl _⟩
  | z :: xs, x => by
    have e : minI x (z :: xs) = minI (if z < x then z else x) xs := rfl
    rw [e]
    obtain ⟨h1, h2⟩ := minI_ok xs (if z < x then z else x)
    by_cases c : z < x
    · rw [if_pos c] at h1 h2 ⊢
      refine ⟨List.mem_cons_of_mem _ h1, fun y hy => ?_⟩
      rcases List.mem_cons.mp hy with rfl | hy
      · have := h2 z List.mem_cons_self
        omega
      · exact h2 y hy
    · rw [if_neg c] at h1 h2 ⊢
      refine ⟨(List.mem_cons.mp h1).elim (fun e => by rw [e]; exact List.mem_cons_self) fun h => List.mem_cons_of_mem _ (List.mem_cons_of_mem _ h), fun y hy => ?_⟩
      rcases List.mem_cons.mp hy with rfl | hy
      · exact h2 y List.mem_cons_self
      · rcases List.mem_cons.mp hy with rfl | hy
        · have := h2 x List.mem_cons_self
          omega
        · exact h2 y (List.mem_cons_of_mem _ hy)
theorem minI_is {x m : Int} {xs : List Int} (h1 : m ∈ x :: xs) (h2 : ∀ y, y ∈ x :: xs → m ≤ y) : minI x xs = m := by
  obtain ⟨a, b⟩ := minI_ok xs x
  have := b m h1
  have := h2 _ a
  omega
theorem bestD_int : ∀ (xs : List Int) (x : Int), bestD D.ltb (.int x) (xs.map D.int) = .int (minI x xs)
  | [], x => rfl
  | y :: xs, x => by
    have e0 : D.ltb (.int y) (.int x) = decide (y < x) := by
      show PyProof.Rows.lexLt itemOrd [Sum.inl y] [Sum.inl x] = _
      refine (lex_cons (O := itemOrd) _ _ _ _).trans ?_
      show (decide (y < x) || (!decide (x < y) && false)) = _
      simp
    show bestD D.ltb (if D.ltb (.int y) (.int x) = true then D.int y else D.int x) (xs.map D.int) = _
    have e : (if D.ltb (.int y) (.int x) = true then D.int y else D.int x) = .int (if y < x then y else x) := by
      rw [e0]
      by_cases h : y < x
      · rw [if_pos h, decide_eq_true h]; rfl
      · rw [if_neg h, decide_eq_false h]; rfl
    rw [e, bestD_int xs]
    rfl
theorem alkAll_int (xs : List Int) : alkAll (xs.map D.int) = true := by
  unfold alkAll
  rw [lay_ints0, dep_ints0]
  refine List.all_eq_true.mpr fun a ha => List.all_eq_true.mpr fun b hb => ?_
  obtain ⟨y, _, rfl⟩ := List.mem_map.mp ha
  obtain ⟨z, _, rfl⟩ := List.mem_map.mp hb
  rfl
theorem q_min1 (x : Int) (xs : List Int) : bMin1 [.lst ((x :: xs).map D.int)] = some (.int (minI x xs)) := by
  have h := alkAll_int (x :: xs)
  show (if alkAll ((x :: xs).map D.int) = true then some (bestD D.ltb (.int x) (xs.map D.int)) else none) = _
  rw [if_pos h, bestD_int]
/-! pairs -/
theorem pr_lay (p : Pr) : (prD p).lay = true := by
  show (true && (layL (p.2.map D.int) && true)) = true
  rw [lay_ints0]
  rfl
theorem pr_dep (p : Pr) : (prD p).dep = 2 := by
  show max 0 (max (depL (p.2.map D.int) + 1) 0) + 1 = 2
  rw [dep_ints0]
  rfl
theorem pr_alk {a b : Pr} (h : a.2.length = b.2.length) : (prD a).alk (prD b) = true := by
  show (true && (alkL (a.2.map D.int) (b.2.map D.int) && true)) = true
  rw [alk_ints h]
  rfl
theorem alkAll_pr {n : Nat} {xs : List Pr} (h : ∀ x, x ∈ xs → x.2.length = n) : alkAll (xs.map prD) = true := by
  unfold alkAll
  have h1 : layL (xs.map prD) = true := by
    clear h
    induction xs with
    | nil => rfl
    | cons x xs ih =>
      show ((prD x).lay && layL (xs.map prD)) = true
      rw [pr_lay, ih]
      rfl
  have h2 : depL (xs.map prD) ≤ 64 := depL_le fun d hd => by
    obtain ⟨y, _, rfl⟩ := List.mem_map.mp hd
    rw [pr_dep]
    decide
  rw [h1, decide_eq_true h2]
  refine List.all_eq_true.mpr fun a ha => List.all_eq_true.mpr fun b hb => ?_
  obtain ⟨y, hy, rfl⟩ := List.mem_map.mp ha
  obtain ⟨z, hz, rfl⟩ := List.mem_map.mp hb
  exact pr_alk ((h y hy).trans (h z hz).symm)
theorem min2_pr {a b : Pr} (h : a.2.length = b.2.length) : bMin2A [prD a, prD b] = some (prD (mn ltP a b)) := by
  have e1 : bMin2 [prD a, prD b] = none := rfl
  have e2 : alkAll [prD a, prD b] = true := alkAll_pr (n := a.2.length) (xs := [a, b]) fun x hx => by
    rcases List.mem_cons.mp hx with rfl | hx
    · rfl
    · rw [List.mem_singleton.mp hx]; exact h.symm
  unfold bMin2A
  rw [e1]
  show (if ((prD a).top && (prD b).top && alkAll [prD a, prD b]) = true then some (if D.ltb (prD b) (prD a) = true then prD b else prD a) else none) = _
  rw [e2, if_pos (by rfl)]
  unfold mn ltP
  split <;> rfl
def bestP (x : Pr) (xs : List Pr) : Pr := xs.foldl (fun a y => if ltP y a = true then y else a) x
theorem ltP_nt {n : Nat} {a b c : Pr} (ha : a.2.length = n) (hb : b.2.length = n) (hc : c.2.length = n) (q1 : ltP a b = false) (q2 : ltP b c = false) : ltP a c = false := by
  cases q : ltP a c with
  | false => rfl
  | true =>
    cases r : ltP b a with
    | true => have := ltP_ord.tr _ _ _ r q; rw [q2] at this; cases this
    | false =>
      have := ltP_tot (ha.trans hb.symm) q1 r
      subst this
      rw [q2] at q
      cases q
theorem bestP_ok {n : Nat} : ∀ (xs : List Pr) (x : Pr), (∀ y, y ∈ x :: xs → y.2.length = n) → bestP x xs ∈ x :: xs ∧ ∀ y, y ∈ x :: xs → ltP y (bestP x xs) = false
  | [], x, _ => ⟨List.mem_cons_self, fun y hy => by
    rw [List.mem_singleton.mp hy]
    exact ltP_ord.irr x⟩
  | z :: xs, x, h => by
    have e : bestP x (z :: xs) = bestP (if ltP z x = true then z else x) xs := rfl
    rw [e]
    have hx := h x List.mem_cons_self
    have hz := h z (List.mem_cons_of_mem _ List.mem_cons_self)
    obtain ⟨h1, h2⟩ := bestP_ok xs (if ltP z x = true then z else x) fun y hy => by
      rcases List.mem_cons.mp hy with rfl | hy
      · split
        · exact hz
        · exact hx
      · exact h y (List.mem_cons_of_mem _ (List.mem_cons_of_mem _ hy))
    have hb : (bestP (if ltP z x = true then z else x) xs).2.length = n := by
      rcases List.mem_cons.mp h1 with e | hm
      · rw [e]
        split
        · exact hz
        · exact hx
      · exact h _ (List.mem_cons_of_mem _ (List.mem_cons_of_mem _ hm))
    by_cases c : ltP z x = true
    · rw [if_pos c] at h1 h2 hb ⊢
      refine ⟨List.mem_cons_of_mem _ h1, fun y hy => ?_⟩
      rcases List.mem_cons.mp hy with rfl | hy
      · refine ltP_nt (b := z) hx hz hb ?_ (h2 z List.mem_cons_self)
        cases q : ltP y z with
        | false => rfl
        | true => have := ltP_ord.tr _ _ _ q c; rw [ltP_ord.irr] at this; cases this
      · exact h2 y hy
    · rw [if_neg c] at h1 h2 hb ⊢
      have c : ltP z x = false := by simpa using c
      refine ⟨(List.mem_cons.mp h1).elim (fun e => by rw [e]; exact List.mem_cons_self) fun h => List.mem_cons_of_mem _ (List.mem_cons_of_mem _ h), fun y hy => ?_⟩
      rcases List.mem_cons.mp hy with rfl | hy
      · exact h2 y List.mem_cons_self
      · rcases List.mem_cons.mp hy with rfl | hy
        · exact ltP_nt (b := x) hz hx hb c (h2 x List.mem_cons_self)
        · exact h2 y (List.mem_cons_of_mem _ hy)
theorem bestP_is {n : Nat} {x m : Pr} {xs : List Pr} (h : ∀ y, y ∈ x :: xs → y.2.length = n) (h1 : m ∈ x :: xs) (h2 : ∀ y, y ∈ x :: xs → ltP y m = false) : bestP x xs = m := by
  obtain ⟨a, b⟩ := bestP_ok xs x h
  exact ltP_tot ((h _ a).trans (h _ h1).symm) (h2 _ a) (b _ h1)
theorem bestD_pr : ∀ (xs : List Pr) (x : Pr), bestD D.ltb (prD x) (xs.map prD) = prD (bestP x xs)
  | [], x => rfl
  | y :: xs, x => by
    show bestD D.ltb (if D.ltb (prD y) (prD x) = true then prD y else prD x) (xs.map prD) = _
    have e : (if D.ltb (prD y) (prD x) = true then prD y else prD x) = prD (if ltP y x = true then y else x) := by
      show (if ltP y x = true then _ else _) = _
      split <;> rfl
    rw [e, bestD_pr xs]
    rfl
theorem q_min1P {n : Nat} {x : Pr} {xs : List Pr} (h : ∀ y, y ∈ x :: xs → y.2.length = n) : bMin1 [.lst ((x :: xs).map prD)] = some (prD (bestP x xs)) := by
  have h := alkAll_pr h
  show (if alkAll ((x :: xs).map prD) = true then some (bestD D.ltb (prD x) (xs.map prD)) else none) = _
  rw [if_pos h, bestD_pr]
theorem q_minVT {n : Nat} {p : (Int × Int) × Pr} {L : List ((Int × Int) × Pr)} (h : ∀ q, q ∈ p :: L → q.2.2.length = n) : minVT (.dt (encT prD (p :: L))) = some (prD (bestP p.2 (L.map (·.2)))) := by
  have e : (encT prD (p :: L)).map (·.2) = prD p.2 :: (L.map (·.2)).map prD := by
    unfold encT
    rw [List.map_map, List.map_cons, List.map_map]
    rfl
  have ha : alkAll ((p.2 :: L.map (·.2)).map prD) = true := alkAll_pr (n := n) fun x hx => by
    rcases List.mem_cons.mp hx with rfl | hx
    · exact h p List.mem_cons_self
    · obtain ⟨q, hq, rfl⟩ := List.mem_map.mp hx
      exact h q (List.mem_cons_of_mem _ hq)
  show (match (encT prD (p :: L)).map (·.2) with
    | x :: xs => if alkAll (x :: xs) = true then some (bestD D.ltb x xs) else none
    | [] => none) = _
  rw [e]
  show (if alkAll ((p.2 :: L.map (·.2)).map prD) = true then some (bestD D.ltb (prD p.2) ((L.map (·.2)).map prD)) else none) = _
  rw [if_pos ha, bestD_pr]
end EV

/-! EVS: sets of texts, made of a tuple, told in order (after the kit's way with sets of whole numbers) -/
namespace EVS
open PySem PySem.Spec PyProof.Rows L2
abbrev Row := Int × Value
/-- the text of a row -/
def tx (r : Row) : Str := match r.2 with | .str k _ => k | _ => ⟨#[]⟩
def RowOk (w : World) (r : Row) : Prop := ∃ k u, r.2 = Value.str k u ∧ r.1 = hashStr w k
/-- what of the rows and the table is kept -/
structure Kept (w : World) (M : Str → Prop) (rows : Array Row) (tb : SetTable) : Prop where
  good : ∀ r ∈ rows.toList, RowOk w r
  once : (rows.toList.map tx).Nodup
  mem : ∀ k, M k ↔ k ∈ rows.toList.map tx
  small : rows.size < scanBound
  fit : tb.fits rows.size = true
  ris : Ris tb.place.toList
  led : w.params.followText "set-order" = true ∨ tb.led = true
/-- the set of texts at a -/
def At (w : World) (h : Heap) (a : Addr) (M : Str → Prop) (n : Nat) : Prop :=
  ∃ o rows ep tb, h.get? a = some o ∧ o.ExactSet ∧ o.data = .set rows ep tb ∧ Kept w M rows tb ∧ rows.size = n
theorem At.on {w : World} {h h' : Heap} {a : Addr} {M : Str → Prop} {n : Nat} (x : At w h a M n) (k : ∀ o, h.get? a = some o → h'.get? a = some o) : At w h' a M n := by
  obtain ⟨o, rows, ep, tb, q, rest⟩ := x
  exact ⟨o, rows, ep, tb, k o q, rest⟩
theorem Kept.as {w : World} {M N : Str → Prop} {rows : Array Row} {tb : SetTable} (x : Kept w M rows tb) (e : ∀ k, N k ↔ M k) : Kept w N rows tb :=
  { x with mem := fun k => (e k).trans (x.mem k) }
theorem At.as {w : World} {h : Heap} {a : Addr} {M N : Str → Prop} {n : Nat} (x : At w h a M n) (e : ∀ k, N k ↔ M k) : At w h a N n := by
  obtain ⟨o, rows, ep, tb, q, q2, q3, q4, q5⟩ := x
  exact ⟨o, rows, ep, tb, q, q2, q3, q4.as e, q5⟩
section
variable {P : Program} {w : World}
theorem row_elems {l : List Row} (g : ∀ r ∈ l, RowOk w r) : ElemsOf (PySem.strKind P w) l := fun r hr => by
  obtain ⟨k, u, e1, e2⟩ := g r hr
  exact ⟨⟨k, by rw [e1]; exact strKind_is P w k u, e2⟩, by rw [e1]; rfl⟩
theorem row_is {r : Row} (g : RowOk w r) (k : Str) : (PySem.strKind P w).is k r.2 = true ↔ tx r = k := by
  obtain ⟨x, u, e1, _⟩ := g
  have et : tx r = x := by unfold tx; rw [e1]
  rw [e1, et]
  constructor
  · intro z
    exact (PySem.strKind P w).inj _ _ _ (strKind_is P w x u) z
  · rintro rfl
    exact strKind_is P w x u
theorem row_mem {l : List Row} (g : ∀ r ∈ l, RowOk w r) (k : Str) : k ∈ l.map tx ↔ ∃ r ∈ l, (PySem.strKind P w).is k r.2 = true := by
  rw [List.mem_map]
  constructor
  · rintro ⟨r, hr, e⟩
    exact ⟨r, hr, (row_is (g r hr) k).mpr e⟩
  · rintro ⟨r, hr, e⟩
    exact ⟨r, hr, (row_is (g r hr) k).mp e⟩
theorem Kept.perm {M : Str → Prop} {rows rows' : Array Row} {tb tb' : SetTable} (x : Kept w M rows tb) (p : rows'.toList.Perm rows.toList) (hf : tb'.fits rows'.size = true) (hr : Ris tb'.place.toList) (hl : tb'.led = tb.led) : Kept w M rows' tb' where
  good := fun r hr => x.good r (p.mem_iff.mp hr)
  once := (p.map tx).nodup_iff.mpr x.once
  mem := fun k => (x.mem k).trans (p.map tx).mem_iff.symm
  small := by
    have e : rows'.size = rows.size := by rw [← Array.length_toList, p.length_eq, Array.length_toList]
    rw [e]; exact x.small
  fit := hf
  ris := hr
  led := x.led.imp id fun z => hl.trans z
end
theorem strs_at : ∀ {vs : List Value} {ks : List Str}, StrsAre vs ks → ∀ (i : Nat) (v : Value), vs[i]? = some v → ∃ k u, ks[i]? = some k ∧ v = .str k u
  | _, _, .nil, i, v, h => by simp at h
  | _, _, .cons k u r, 0, v, h => by
    simp at h
    exact ⟨k, u, rfl, h.symm⟩
  | _, _, .cons k u r, i + 1, v, h => by
    obtain ⟨k', u', h1, h2⟩ := strs_at r i v (by simpa using h)
    exact ⟨k', u', by simpa using h1, h2⟩
section
variable {P : Program} {w : World} {A : Around} {E : Value → Shared → Prop} {s : Shared} {a : Addr} {M : Str → Prop} {n : Nat}
theorem lay_tail {g : Bool → Sem Unit} (hg : ∀ (b : Bool) (s₁ : Shared) (Q' : Unit → Shared → Prop), Q' () s₁ → wpAny (model P w) A (g b) Q' E s₁)
    {o : Obj} {rows : Array Row} {ep : Nat} {tb : SetTable} (ho : s.heap.get? a = some o) (hex : o.ExactSet) (hd : o.data = .set rows ep tb)
    {r1 : Array Row} {t2 : SetTable} (K : Kept w M r1 t2) {dm : Bool} {R : Option Bool → Shared → Prop}
    (hR : ∀ h', Heap.SameBut a s.heap h' → At w h' a M r1.size → R (some true) { s with heap := h' }) :
    wpAny (model P w) A (do
        storeSet a r1 t2
        if (!dm && t2.tooFull) = true then do
            g (relayAll t2 r1 (SetTable.grown r1.size)).2.2
            storeSet a (relayAll t2 r1 (SetTable.grown r1.size)).1 (relayAll t2 r1 (SetTable.grown r1.size)).2.1
            pure (some true)
          else pure (some true)) R E s := by
  have put1 := store_at (es' := r1) (t' := t2) ho hd
  have but1 := Heap.SameBut.update s.heap a (Obj.putSet r1 t2)
  refine wpAny_bind (wpAny_storeSet_of ho hd ?_ (fits_of_scanBound K.small))
  by_cases c : (!dm && t2.tooFull) = true
  · rw [if_pos c]
    have pm := relayAll_perm t2 r1 (SetTable.grown r1.size)
    have K2 := K.perm pm (relayAll_fits t2 r1 _) (relayAll_ris t2 r1 _) (relayAll_led t2 r1 _)
    have z : (relayAll t2 r1 (SetTable.grown r1.size)).1.size = r1.size := by rw [← Array.length_toList, pm.length_eq, Array.length_toList]
    generalize relayAll t2 r1 (SetTable.grown r1.size) = Z at K2 z ⊢
    refine wpAny_bind (hg _ _ _ (wpAny_bind (wpAny_storeSet_of put1 rfl ?_ (fits_of_scanBound K2.small))))
    exact wpAny_pure (hR _ (but1.trans (Heap.SameBut.update _ a _)) ⟨_, Z.1, _, Z.2.1, store_at put1 rfl, hex, rfl, K2, z⟩)
  · rw [if_neg c]
    exact wpAny_pure (hR _ but1 ⟨_, r1, _, t2, put1, hex, rfl, K, rfl⟩)
theorem add_text {k : Str} {u : Tok} {Q : Bool → Shared → Prop} (X : At w s.heap a M n) (room : n + 1 < scanBound)
    (hQ : ∀ h' m b, Heap.SameBut a s.heap h' → At w h' a (fun j => M j ∨ j = k) m → m ≤ n + 1 → Q b { s with heap := h' }) :
    wpAny (model P w) A (setAddHashed a (.str k u) ((PySem.strKind P w).hash k)) Q E s := by
  obtain ⟨o, rows, ep, tb, ho, hex, hd, K, hn⟩ := X
  have me : (PySem.strKind P w).is k (.str k u) = true := strKind_is P w k u
  have sc : (Value.str k u).scannable = true := rfl
  have el : ElemsOf (PySem.strKind P w) rows.toList := row_elems K.good
  unfold setAddHashed setAddHashedIn
  refine wpAny_holding (wpAny_bind (wpAny_setState_of ho hd K.fit ?_))
  dsimp only
  rw [byScan_of sc K.small el, if_pos rfl]
  unfold setAddByScan
  refine wpAny_bind (wpAny_bind (wpAny_rule (wpAny_bind (wpAny_setScan_of me ho hd K.fit el ?_))))
  cases fi : List.findIdx? (fun r => (PySem.strKind P w).is k r.2) rows.toList with
  | some j =>
    obtain ⟨hj, pj, _⟩ := List.findIdx?_eq_some_iff_getElem.mp fi
    have there : M k := (K.mem k).mpr ((row_mem (P := P) K.good k).mpr ⟨_, List.getElem_mem hj, pj⟩)
    refine wpAny_pure (wpAny_pure (hQ s.heap n _ (Heap.SameBut.refl a s.heap) ⟨o, rows, ep, tb, ho, hex, hd, K.as fun i => ?_, hn⟩ (Nat.le_succ n)))
    exact ⟨fun z => z.elim id fun e => e ▸ there, .inl⟩
  | none =>
    have nk : k ∉ rows.toList.map tx := fun z => by
      obtain ⟨r, hr, q⟩ := (row_mem (P := P) K.good k).mp z
      have c := List.findIdx?_eq_none_iff.mp fi r hr
      rw [q] at c
      cases c
    have pm := layNew_perm tb rows ((PySem.strKind P w).hash k) (.str k u)
    have lf := layNew_fits tb rows ((PySem.strKind P w).hash k) (.str k u)
    have lr := layNew_ris tb rows ((PySem.strKind P w).hash k) (.str k u) K.ris
    have ll := layNew_led tb rows ((PySem.strKind P w).hash k) (.str k u)
    dsimp only
    generalize layNew tb rows ((PySem.strKind P w).hash k) (.str k u) = Z at pm lf lr ll ⊢
    obtain ⟨r1, t1, dm, gave⟩ := Z
    dsimp only at pm lf lr ll ⊢
    rw [Array.toList_push] at pm
    have pc : r1.toList.Perm (((PySem.strKind P w).hash k, Value.str k u) :: rows.toList) := pm.trans (List.perm_append_singleton _ _)
    have z1 : r1.size = n + 1 := by rw [← Array.length_toList, pc.length_eq, List.length_cons, Array.length_toList, hn]
    have K1 : ∀ t2 : SetTable, t2.fits r1.size = true → Ris t2.place.toList → t2.led = tb.led → Kept w (fun j => M j ∨ j = k) r1 t2 := fun t2 f r l =>
      { good := fun e he => by
          rcases List.mem_cons.mp (pc.mem_iff.mp he) with z | z
          · rw [z]; exact ⟨k, u, rfl, rfl⟩
          · exact K.good e z
        once := (pc.map tx).nodup_iff.mpr (List.nodup_cons.mpr ⟨nk, K.once⟩)
        mem := fun i => by
          rw [(pc.map tx).mem_iff, List.map_cons, List.mem_cons, K.mem i]
          exact Or.comm
        small := by rw [z1]; exact room
        fit := f
        ris := r
        led := K.led.imp id fun z => l.trans z }
    have fin : ∀ b h', Heap.SameBut a s.heap h' → At w h' a (fun j => M j ∨ j = k) r1.size → Q b { s with heap := h' } := fun b h' sb x => hQ h' _ b sb x (Nat.le_of_eq z1)
    have ways : ∀ (b : Bool) (s₁ : Shared) (Q' : Unit → Shared → Prop), Q' () s₁ → wpAny (model P w) A (match b with | true => rule "set.scan.the-table-gave-way" | false => pure ()) Q' E s₁ := fun b s₁ Q' q => by
      cases b
      · exact wpAny_pure q
      · exact wpAny_rule q
    refine wpAny_bind (ways gave _ _ ?_)
    split
    · refine wpAny_bind ?_
      rw [hashByValue_scannable 8 sc]
      refine wpAny_pure (lay_tail ways ho hex hd (K1 _ ?_ ?_ ?_) fun h' sb x => wpAny_pure (fin _ h' sb x))
      · first | (split <;> first | exact lf | exact SetTable.fits_plain_off lf) | exact lf
      · first | (split <;> exact lr) | exact lr
      · first | (split <;> exact ll) | exact ll
    · refine wpAny_bind (wpAny_pure ?_)
      exact lay_tail ways ho hex hd (K1 _ lf lr ll) fun h' sb x => wpAny_pure (fin _ h' sb x)
/-! the loop that fills -/
theorem fill {I : Addr} {fp wr : List Addr} {G : Array GenState → Array GenState → Prop} {m : Nat} {Pv : Nat → Value → Prop} {St : Nat → Shared → Prop} {R : Result → Shared → Prop}
    (W : WalksS P w A.in1 I fp wr G m Pv St) (T : Addr) (hT : T ∉ fp) (ks : List Str) (hm : m = ks.length) (hb : ks.length + 1 < scanBound) (hv : ∀ i v, Pv i v → ∃ k u, ks[i]? = some k ∧ v = .str k u) :
    ∀ (f i : Nat) (s : Shared), m - i = f → i ≤ m → St i s → (∃ c, c ≤ i ∧ At w s.heap T (fun j => j ∈ ks.take i) c) →
      (∀ s' c, Moved (T :: wr) G s s' → c ≤ m → At w s'.heap T (fun j => j ∈ ks) c → R (.ok (.ret .none)) s') →
      codeAny (model P w) A (.builtin "set.update.loop" ⟨[.ref T, .ref I], []⟩) R s := by
  have hw : T ∉ wr := fun h => hT (W.sub _ h)
  have up : ∀ b ∈ wr, b ∈ T :: wr := fun b hb => List.mem_cons_of_mem _ hb
  intro f
  induction f with
  | zero =>
    intro i s e0 hi st ⟨c, hc, X⟩ hR
    obtain rfl : i = m := by omega
    refine codeAny_builtin F.entry_set_update_loop ?_
    rw [Around.under_plainId F.plain_set_update_loop _]
    show wpAny _ A.in1 (pyNext (.ref I) >>= _) _ _ s
    refine wpAny_bind (W.done s _ _ st fun s' mv => ?_)
    show wpAny _ A.in1 (ret Value.none) _ _ s'
    rw [show ks.take i = ks from List.take_of_length_le (by omega)] at X
    exact wpAny_pure (hR s' c (mv.mono up) hc (X.on fun o e => mv.heap T o hw e))
  | succ f ih =>
    intro i s e0 hi st ⟨c, hc, X⟩ hR
    have lt : i < m := by omega
    refine codeAny_builtin F.entry_set_update_loop ?_
    rw [Around.under_plainId F.plain_set_update_loop _]
    show wpAny _ A.in1 (pyNext (.ref I) >>= _) _ _ s
    refine wpAny_bind (W.item i s _ _ lt st fun v s' hP st' mv => ?_)
    obtain ⟨k, u, hk, rfl⟩ := hv i v hP
    have X' : At w s'.heap T (fun j => j ∈ ks.take i) c := X.on fun o e => mv.heap T o hw e
    show wpAny _ A.in1 (holding [Value.str k u] (setAdd T (.str k u)) >>= _) _ _ s'
    refine wpAny_bind (wpAny_holding ?_)
    unfold setAdd
    refine wpAny_holding (wpAny_bind ((PySem.strKind P w).pyHash (k := k) (strKind_is P w k u) ?_))
    refine add_text X' (by omega) fun h' c2 b sb X2 hc2 => ?_
    have X3 : At w h' T (fun j => j ∈ ks.take (i + 1)) c2 := X2.as fun j => by
      rw [List.take_add_one, hk]
      simp [List.mem_append]
    refine wpAny_pure ⟨plainId_quiet F.plain_set_update_loop _, ih (i + 1) _ (by omega) lt (W.frame _ s' _ _ st' (Nat.le_succ _) fun b hb o e => ?_) ⟨c2, by omega, X3⟩ fun s'' c3 mv' hc3 X4 => ?_⟩
    · rw [sb.2 b fun z : b = T => hT (z ▸ hb)]; exact e
    · refine hR s'' c3 (Moved.trans W.gtrans ((mv.mono up).then_heap (Nat.le_succ _) fun b o hb e => ?_) mv') hc3 X4
      rw [sb.2 b fun z : b = T => hb (z ▸ List.mem_cons_self)]; exact e
/-- the new set -/
abbrev newO (w : World) : Obj := { cls := .type "set", dict := none, data := .set #[] 0 (.fresh 0 0 (!w.params.followText "set-order")) }
theorem new_led (w : World) : w.params.followText "set-order" = true ∨ (!w.params.followText "set-order") = true := by
  cases w.params.followText "set-order"
  · exact .inr rfl
  · exact .inl rfl
theorem fresh_at {h : Heap} {a : Addr} {ks : List Str} (ho : h.get? a = some (newO w)) : At w h a (fun j => j ∈ ks.take 0) 0 :=
  ⟨_, #[], 0, _, ho, ⟨rfl, rfl, rfl⟩, rfl, { good := fun r hr => by simp at hr, once := by simp, mem := fun k => by simp, small := by decide, fit := by rfl, ris := List.Pairwise.nil, led := new_led w }, rfl⟩
set_option maxHeartbeats 6400000 in
theorem set_tuple {l : Addr} {its : Array Value} (ks : List Str) {Q : Value → Shared → Prop} (hh : A.handled = none) (hl : s.heap.IsTuple l its) (hit : StrsAre its.toList ks) (hb : ks.length + 1 < scanBound)
    (hQ : ∀ (h' : Heap) (tk c : Nat), At w h' s.heap.objs.size (fun j => j ∈ ks) c → c ≤ ks.length → (∀ b o, s.heap.get? b = some o → h'.get? b = some o) → Q (.ref s.heap.objs.size) { s with heap := h', toks := tk }) :
    wpAny (model P w) A (call (.type "set") [.ref l]) Q E s := by
  have isz : its.size = ks.length := by
    have q := StrsAre.length hit
    rwa [Array.length_toList] at q
  obtain ⟨c0, tl, hmro⟩ := F.called_set.mro
  have hmade := F.called_set.made
  have hsub := F.called_set.sub
  refine wpAny_call (codeAny_of_tree ?_)
  show wpAny _ _ (callAny (.type "set") _) _ _ _
  refine wpAny_pure ⟨Code.quiet_builtin _ (by decide +kernel), codeAny_builtin F.entry_type_call ?_⟩
  rw [Around.under_plain (weight_type_call_type "set" [.ref l] []) rfl]
  have h1 := F.called_set.notType
  have h2 := F.called_set.canCreate
  have hct := F.typeCall_set_1 (.ref l)
  repeat (any_goals (first | assumption | wp_step))
  refine codeAny_mono (code_set_led1 (.ref l) (E := E) (Q₁ := fun obj s₁ => obj = .ref s.heap.objs.size ∧ s₁ = { s with heap := s.heap.push (newO w) }) ⟨rfl, rfl⟩) fun r s₁ hr => ?_
  match r, hr with
  | .error e, hr => exact hr
  | .ok (.ret obj), hr =>
    obtain ⟨rfl, rfl⟩ := hr
    have hS : (s.heap.push (newO w)).get? s.heap.objs.size = some (newO w) := Heap.get?_push_size _ rfl
    have hT : Shared.TypeIs { s with heap := s.heap.push (newO w) } (.ref s.heap.objs.size) "set" := ⟨_, hS, rfl⟩
    have hli := F.called_set.init.lookup
    have hbi := F.called_set.init.bind (.ref s.heap.objs.size)
    repeat (any_goals (first | assumption | wp_step))
    refine codeAny_mono (codeAny_call_builtin (R := wants (fun r s₂ => r = .none ∧ ∃ h' tk c, s₂ = { s with heap := h', toks := tk } ∧ At w h' s.heap.objs.size (fun j => j ∈ ks) c ∧ c ≤ ks.length ∧
        (∀ b o, s.heap.get? b = some o → h'.get? b = some o)) E) F.called_set.init.plain F.entry_set_init (check_set_init_1 hT ?_)) fun r₂ s₂ hr₂ => ?_
    · obtain ⟨⟨cl, od, dt, sl⟩, hol, hcl, nl, hdl⟩ := hl
      simp only at hcl hdl
      subst hcl
      subst hdl
      have hl1 : (s.heap.push (newO w)).IsTuple l its := ⟨_, Heap.get?_push_of_some _ hol, rfl, nl, rfl⟩
      have hol' : (s.heap.push (newO w)).get? l = some { cls := .type "tuple", dict := od, data := .seq its nl, slots := sl } := Heap.get?_push_of_some _ hol
      have hsls := F.sub_tuple_set
      have hslf := F.sub_tuple_frozenset
      have hne : (Value.type "tuple" == Value.type "dict") = false := by decide
      unfold Builtin.«set.__init__» noKeywords Builtin.Frozenset.updateFrom
      generalize hPI : pyIter = PI
      wp_walk
      subst hPI
      refine wpAny_pyIter_tuple hl1 (wpAny_bind (wpAny_runValue ?_))
      have lS : l < s.heap.objs.size := Heap.lt_size hol
      have hh3 : A.in1.in1.in1.handled = none := by simp [hh]
      have neI : l ≠ (s.heap.push (newO w)).objs.size := by
        rw [Heap.size_push]
        exact Nat.ne_of_lt (Nat.lt_succ_of_lt lS)
      have nfp : s.heap.objs.size ∉ [(s.heap.push (newO w)).objs.size, l] := by
        rw [Heap.size_push]
        simp only [List.mem_cons, List.not_mem_nil, or_false, not_or]
        exact ⟨Nat.ne_of_lt (Nat.lt_succ_self _), Nat.ne_of_gt lS⟩
      have val : ∀ (i : Nat) (v : Value), its[i]? = some v → ∃ k u, ks[i]? = some k ∧ v = .str k u := fun i v hv => by
        rw [← Array.getElem?_toList] at hv
        exact strs_at hit i v hv
      refine fill ((Walks.tuple hh3 _ l neI its).toS) s.heap.objs.size nfp ks isz hb val (its.size - 0) 0 _ (by omega) (Nat.zero_le _) ⟨⟨_, Heap.get?_push_size _ rfl, rfl, rfl⟩, (hl1.push _)⟩ ⟨0, Nat.le_refl 0, fresh_at (Heap.get?_push_of_some _ hS)⟩ ?_
      rintro ⟨h', g2, d', tk', os'⟩ c' mv hc' X'
      obtain rfl : g2 = s.gens := mv.gens
      obtain rfl : d' = s.drawn := mv.drawn
      obtain rfl : os' = s.os := mv.os
      show wpAny _ _ _ _ _ _
      refine wpAny_pure ?_
      show wpAny _ _ (ret Value.none) _ _ _
      refine wpAny_pure ⟨rfl, h', tk', c', rfl, X', by omega, fun b o e => ?_⟩
      have b0 : b < s.heap.objs.size := Heap.lt_size e
      refine mv.heap b o ?_ (Heap.get?_push_of_some _ (Heap.get?_push_of_some _ e))
      rw [Heap.size_push]
      simp only [List.mem_cons, List.not_mem_nil, or_false, not_or]
      exact ⟨Nat.ne_of_lt b0, Nat.ne_of_lt (Nat.lt_succ_of_lt b0)⟩
    · match r₂, hr₂ with
      | .error e, hr₂ => exact hr₂
      | .ok (.ret r), hr₂ =>
        obtain ⟨rfl, h', tk, c', rfl, X', hc', hk'⟩ := hr₂
        repeat (any_goals (first | assumption | wp_step))
        exact hQ _ _ _ X' hc' hk'
end
end EVS

/-! EVW: sorted(set(t)), len(set(t)) of a tuple of texts -/
namespace EVS
open PySem PySem.Spec PyProof.Rows L2
theorem strs_of : ∀ (l : List Value), (∀ v ∈ l, ∃ k u, v = Value.str k u) → StrsAre l (l.map strOf)
  | [], _ => .nil
  | v :: l, h => by
    obtain ⟨k, u, rfl⟩ := h v List.mem_cons_self
    exact .cons k u (strs_of l fun x hx => h x (List.mem_cons_of_mem _ hx))
section
variable {P : Program} {w : World} {A : Around} {E : Value → Shared → Prop} {s : Shared} {a : Addr} {M : Str → Prop} {n : Nat}
theorem sorted_texts {Q : Value → Shared → Prop} (X : At w s.heap a M n) (hh : A.handled = none) (h64 : n < 64)
    (hQ : ∀ s' p (out : Array Value) (c : Nat) (ys : List Str), (∀ b o, s.heap.get? b = some o → s'.heap.get? b = some o) → s'.gens = s.gens → s'.os = s.os → s.heap.objs.size ≤ p →
      s'.heap.get? p = some (seqObj "list" out c) → StrsAre out.toList ys → sortedS ys = true → ys.Nodup → (∀ k, k ∈ ys ↔ M k) → ys.length = n → Q (.ref p) s') :
    wpAny (model P w) A (call (.builtin "sorted") [.ref a]) Q E s := by
  obtain ⟨o, rows, ep, tb, ho, hex, hd, K, hn⟩ := X
  refine Calls.call_function_entry kind_sorted plain_sorted entry_sorted (args_sorted1 _) ?_
  unfold Builtin.«sorted»
  refine wpAny_bind (m := checkCount "sorted" 1 1 _) (wpAny_pure ?_)
  refine wpAny_bind (collect_set (A := A.in1) hh ⟨o, ho, hex.1, hd⟩ K.fit K.small K.ris K.led fun s1 vs k1 hz g1 o1 pm => ?_)
  have vl : vs.length = n := by rw [pm.length_eq, List.length_map, Array.length_toList]; exact hn
  have sa : StrsAre vs (vs.map strOf) := strs_of vs fun v hv => by
    obtain ⟨r, hr, q⟩ := List.mem_map.mp (pm.mem_iff.mp hv)
    obtain ⟨k, u, e1, _⟩ := K.good r hr
    exact ⟨k, u, q.symm.trans e1⟩
  have pk : (vs.map strOf).Perm (rows.toList.map tx) := by
    have q := pm.map strOf
    rw [List.map_map] at q
    refine q.trans (List.Perm.of_eq (List.map_congr_left fun r hr => ?_))
    obtain ⟨k, u, e1, _⟩ := K.good r hr
    show strOf r.2 = tx r
    unfold tx
    rw [e1]
    rfl
  refine wpAny_bind (wpAny_newList ?_ (by rw [vl, sizeLine_eq]; omega))
  have hoL : (s1.heap.push (seqObj "list" vs.toArray 0)).get? s1.heap.objs.size = some (seqObj "list" vs.toArray 0) := Heap.get?_push_size _ rfl
  refine wpAny_bind (wpAny_holding (wpAny_call_entry slot_list_sort ⟨_, hoL, rfl⟩ entry_list_sort (list_sort_treeK strKind_oneLt hoL sa.keysOf (fun v₁ v₂ rest e => keyKind_strs (by rw [← e]; exact sa)) (by rw [vl]; exact h64) fun st' hp hs => ⟨_, rfl, ?_⟩) (args_list_sort _)))
  obtain ⟨ys, y1, y2, y3⟩ := sorted_out_str sa hp hs
  obtain ⟨c, hc⟩ := sortedHeap_at (vs := vs) (out := (arrOf st').map (·.2)) hoL
  have pn : ys.Perm (rows.toList.map tx) := y2.trans pk
  refine wpAny_pure ⟨_, rfl, hQ _ s1.heap.objs.size _ c ys (fun b u e => ?_) g1 o1 hz hc y1 y3 (pn.nodup_iff.mpr K.once) (fun k => by rw [pn.mem_iff, ← K.mem k]) ?_⟩
  · have q := k1 b u e
    have lt := Heap.lt_size q
    show (sortedHeap (s1.heap.push (seqObj "list" vs.toArray 0)) s1.heap.objs.size vs _).get? b = some u
    rw [sortedHeap_old (Nat.ne_of_lt lt) (by rw [size_push']; exact Nat.lt_succ_of_lt lt)]
    exact Heap.get?_push_of_some _ q
  · rw [pn.length_eq, List.length_map, Array.length_toList]; exact hn
end
section
variable {X : Cx}
theorem room64 {n : Nat} (h : n < 64) : n + 1 < scanBound := Nat.lt_of_le_of_lt (Nat.succ_le_of_lt h) (by decide)
theorem big63 {n : Nat} (h : n < scanBound) : (n : Int) < 2 ^ 63 := by
  have : scanBound ≤ 2 ^ 62 := by decide
  omega
/-- sorted(set(t)) -/
def tSortSet (K : PySem.W.Frag) (ta : TE) : TE := fun σ H Q => ta σ H fun x H1 => ∃ l, ∃ xs : List Str, x = .ref l ∧ SqT K H1 l (xs.map V.str) ∧ xs.length < 64 ∧
  ∀ (ys : List Str) (p : Addr), sortedS ys = true → ys.Nodup → (∀ k, k ∈ ys ↔ k ∈ xs) → H1 p = none → Q (.ref p) (upd H1 p (.lst (ys.map V.str)))
/-- len(set(t)) -/
def tLenTx (K : PySem.W.Frag) (ta : TE) : TE := fun σ H Q => ta σ H fun x H1 => ∃ l, ∃ xs : List Str, x = .ref l ∧ SqT K H1 l (xs.map V.str) ∧ xs.length < 64 ∧
  ∀ (ys : List Str), ys.Nodup → (∀ k, k ∈ ys ↔ k ∈ xs) → Q (.int ys.length) H1
theorem pe_sortSet {a : Expr} {ta : TE} {p p2 q pos : Pos} (hc : X.calm = true) (hg : Gl X "sorted") (hm : X.mg "sorted" = none) (hg2 : Gl X "set") (hm2 : X.mg "set" = none) (ha : PE X a ta)
    (na : starEach [a] X.env = (false, eval a X.env) :: starEach [] X.env := by rfl) : PE X (.Call (.Name "sorted" p) [.Call (.Name "set" p2) [a] [] q] [] pos) (tSortSet X.K ta) := by
  refine ⟨fun pins s σ H Q I h => ?_⟩
  refine Call_ (ld_blt I hg hm rfl ?_)
  refine PyProof.Rows.callWith_builtin1 (PyProof.Rows.args_cons ?_ rfl) rfl rfl
  refine Call_ (ld_blt I hg2 hm2 boot_set ?_)
  refine PyProof.Rows.callWith_type1 (PyProof.Rows.args_cons (thn (ha.run pins s σ H _ I h) fun v s1 ⟨x, H1, I1, r1, q1⟩ => PyProof.Rows.args_nil ?_) na) na rfl
  obtain ⟨l, xs, rfl, hq, h1, q1⟩ := q1
  cases r1
  obtain ⟨its, r, pl, hz⟩ := I1.tuple hq
  refine set_tuple xs (I1.ok.hd hc) pl (by simpa using strsAre_of r) (room64 h1) fun h' tk c A1 hc1 hk => ?_
  refine PyProof.Rows.args_nil ?_
  have I2 : Inv X pins σ H1 { s1 with heap := h', toks := tk } := I1.kept fun b o e => hk b o e
  refine sorted_texts (s := { s1 with heap := h', toks := tk }) A1 (I2.ok.hd hc) (by omega) fun s' p out c2 ys k g o hp hl hi hs nd hm0 hlen => ?_
  have hn : H1 p = none := I2.hok.fresh hp
  have len : (ys.map V.str).length ≤ sizeLine := by rw [List.length_map, sizeLine_eq]; omega
  have J : Inv X pins σ (upd H1 p (.lst (ys.map V.str))) { heap := s'.heap, gens := s'.gens, drawn := s'.drawn, toks := s'.toks, os := s1.os } :=
    Inv.call (s := { s1 with heap := h', toks := tk }) (ch := []) I2 (Un.laid k hp hn) (I2.hok.laid k hp ⟨len, out.toList, c2, vals_of_strs hi, hl⟩) (by rw [g]; exact I2.bare) (fun _ z => nomatch z)
  have e : s' = { heap := s'.heap, gens := s'.gens, drawn := s'.drawn, toks := s'.toks, os := s1.os } := by
    cases s'
    cases s1
    cases o
    rfl
  rw [e]
  exact ⟨.ref p, _, J, rfl, q1 ys p hs nd hm0 hn⟩
theorem nodup_len {α : Type} [DecidableEq α] {xs ys : List α} (h1 : xs.Nodup) (h2 : ys.Nodup) (h : ∀ k, k ∈ xs ↔ k ∈ ys) : xs.length = ys.length :=
  ((List.perm_ext_iff_of_nodup h1 h2).mpr h).length_eq
theorem pe_lenTx {a : Expr} {ta : TE} {p p2 q pos : Pos} (hc : X.calm = true) (hg : Gl X "len") (hm : X.mg "len" = none) (hg2 : Gl X "set") (hm2 : X.mg "set" = none) (ha : PE X a ta)
    (na : starEach [a] X.env = (false, eval a X.env) :: starEach [] X.env := by rfl) : PE X (.Call (.Name "len" p) [.Call (.Name "set" p2) [a] [] q] [] pos) (tLenTx X.K ta) := by
  refine ⟨fun pins s σ H Q I h => ?_⟩
  refine Call_ (ld_blt I hg hm boot_len ?_)
  refine PyProof.Rows.callWith_builtin1 (PyProof.Rows.args_cons ?_ rfl) rfl rfl
  refine Call_ (ld_blt I hg2 hm2 boot_set ?_)
  refine PyProof.Rows.callWith_type1 (PyProof.Rows.args_cons (thn (ha.run pins s σ H _ I h) fun v s1 ⟨x, H1, I1, r1, q1⟩ => PyProof.Rows.args_nil ?_) na) na rfl
  obtain ⟨l, xs, rfl, hq, h1, q1⟩ := q1
  cases r1
  obtain ⟨its, r, pl, hz⟩ := I1.tuple hq
  refine set_tuple xs (I1.ok.hd hc) pl (by simpa using strsAre_of r) (room64 h1) fun h' tk c A1 hc1 hk => ?_
  refine PyProof.Rows.args_nil ?_
  have I2 : Inv X pins σ H1 { s1 with heap := h', toks := tk } := I1.kept fun b o e => hk b o e
  obtain ⟨o, rows, ep, tb, ho, hex, hd, K, hn⟩ := A1
  refine call_len_set ho hex hd K.fit (big63 K.small) ⟨.int rows.size, H1, I2.tok _, ⟨_, rfl⟩, ?_⟩
  have e : rows.size = (rows.toList.map tx).length := by rw [List.length_map, Array.length_toList]
  rw [e]
  exact q1 _ K.once fun k => (K.mem k).symm
end
end EVS

namespace EV
open PySem PySem.Spec L2 SX
open PyProof.Rows hiding St
/-! ### len(set(t)), sorted(set(t)) of a tuple of texts -/
def ddS : List (List Nat) → List (List Nat)
  | [] => []
  | x :: r => if x ∈ r then ddS r else x :: ddS r
theorem ddS_mem : ∀ {l : List (List Nat)} {x : List Nat}, x ∈ ddS l ↔ x ∈ l
  | [], _ => Iff.rfl
  | y :: r, x => by
    unfold ddS
    split
    · rename_i h
      rw [ddS_mem, List.mem_cons]
      exact ⟨.inr, fun z => z.elim (fun e => e ▸ h) id⟩
    · rw [List.mem_cons, List.mem_cons, ddS_mem]
theorem ddS_nodup : ∀ l : List (List Nat), (ddS l).Nodup
  | [] => List.nodup_nil
  | y :: r => by
    unfold ddS
    split
    · exact ddS_nodup r
    · rename_i h
      exact List.nodup_cons.mpr ⟨fun z => h (ddS_mem.mp z), ddS_nodup r⟩
theorem ddS_len : ∀ l : List (List Nat), (ddS l).length ≤ l.length
  | [] => Nat.le_refl _
  | y :: r => by
    have := ddS_len r
    unfold ddS
    split
    · rw [List.length_cons]; omega
    · rw [List.length_cons, List.length_cons]; omega
def bLenS : D → Option D
  | .tup xs => (dStrs xs).bind fun ss => if ss.length < 64 then some (.int (ddS ss).length) else none
  | _ => none
def bSortS : D → Option D
  | .tup xs => (dStrs xs).bind fun ss => if ss.length < 64 then some (.lst ((sortS (ddS ss)).map D.str)) else none
  | _ => none
def fUn (g : D → Option D) (f1 : SE) : Env → Res (D × Env) := fun ρ => f1 ρ >>= fun r1 => deref r1.2 r1.1 >>= fun d1 => ofOpt (g d1) >>= fun d => .ok (d, r1.2)
theorem map_S_of {ys : List Str} {l : List (List Nat)} (nd : ys.Nodup) (h : ∀ k, k ∈ ys ↔ k ∈ l.map SX.S) : ys.Perm ((ddS l).map SX.S) := by
  refine (List.perm_ext_iff_of_nodup nd ?_).mpr fun k => ?_
  · refine List.Pairwise.map SX.S (fun a b hab e => hab ?_) (ddS_nodup l)
    rw [← S_toList a, ← S_toList b, e]
  · rw [h, List.mem_map, List.mem_map]
    exact ⟨fun ⟨a, ha, e⟩ => ⟨a, ddS_mem.mpr ha, e⟩, fun ⟨a, ha, e⟩ => ⟨a, ddS_mem.mp ha, e⟩⟩
section
variable {X : Cx} {S : ES} {W : WX} {pos p p2 q : Pos} {a : Expr} {fa : SE}
theorem ev_lenS (hc : X.calm = true) (hg : Gl X "len") (hm : X.mg "len" = none) (hg2 : Gl X "set") (hm2 : X.mg "set" = none) (ha : EvE X S W a fa) (na : starEach [a] X.env = (false, eval a X.env) :: starEach [] X.env := by rfl) :
    EvE X S W (.Call (.Name "len" p) [.Call (.Name "set" p2) [a] [] q] [] pos) (eUn bLenS fa) := by
  obtain ⟨ta, pa, qa⟩ := ha
  refine ⟨_, EVS.pe_lenTx hc hg hm hg2 hm2 pa na, fun C σ H ρ Q E w => ?_⟩
  refine qa C σ H ρ _ E ((Wp.bind w).mono (fun _ _ h => h) fun r1 _ w1 v1 H1 E1 A1 R1 => ?_)
  obtain ⟨d1, e1, w3⟩ := deref_wp w1
  obtain ⟨d, e, w5⟩ := opt_wp w3
  have rt := R1.rt E1 e1
  unfold bLenS at e
  split at e
  · rename_i xs
    cases z : dStrs xs with
    | none => rw [z] at e; cases e
    | some ss =>
      rw [z] at e
      have e : (if ss.length < 64 then some (D.int (ddS ss).length) else none) = some d := e
      split at e
      · rename_i hl
        cases e
        obtain rfl := strs_eq z
        obtain ⟨b, vs, rfl, h1, h2⟩ := rt.tup
        obtain ⟨rfl, oks⟩ := h2.strs
        refine ⟨b, ss.map SX.S, rfl, h1.sq, by rw [List.length_map]; exact hl, fun ys nd hm0 => ?_⟩
        have pm := (map_S_of nd hm0).length_eq
        rw [List.length_map] at pm
        rw [pm]
        exact w5 _ H1 E1 A1 (Rep.int _)
      · cases e
  · cases e
theorem ef_sortS (hc : X.calm = true) (hg : Gl X "sorted") (hm : X.mg "sorted" = none) (hg2 : Gl X "set") (hm2 : X.mg "set" = none) (ha : EvE X S W a fa) (na : starEach [a] X.env = (false, eval a X.env) :: starEach [] X.env := by rfl) :
    EvF X S W (.Call (.Name "sorted" p) [.Call (.Name "set" p2) [a] [] q] [] pos) (fUn bSortS fa) := by
  obtain ⟨ta, pa, qa⟩ := ha
  refine ⟨_, EVS.pe_sortSet hc hg hm hg2 hm2 pa na, fun C σ H ρ Q E w => ?_⟩
  refine qa C σ H ρ _ E ((Wp.bind w).mono (fun _ _ h => h) fun r1 _ w1 v1 H1 E1 A1 R1 => ?_)
  obtain ⟨d1, e1, w3⟩ := deref_wp w1
  obtain ⟨d, e, w5⟩ := opt_wp w3
  have rt := R1.rt E1 e1
  unfold bSortS at e
  split at e
  · rename_i xs
    cases z : dStrs xs with
    | none => rw [z] at e; cases e
    | some ss =>
      rw [z] at e
      have e : (if ss.length < 64 then some (D.lst ((sortS (ddS ss)).map D.str)) else none) = some d := e
      split at e
      · rename_i hl
        cases e
        obtain rfl := strs_eq z
        obtain ⟨b, vs, rfl, h1, h2⟩ := rt.tup
        obtain ⟨rfl, oks⟩ := h2.strs
        refine ⟨b, ss.map SX.S, rfl, h1.sq, by rw [List.length_map]; exact hl, fun ys p hs nd hm0 hp => ?_⟩
        obtain ⟨m, rfl, hmp⟩ := map_S_perm (map_S_of nd hm0)
        obtain rfl := sortS_unique hmp (sortedS_pw hs)
        have na : NewAt X.K S.T (C.O S σ r1.2) H1 (.lst (((sortS (ddS ss)).map SX.S).map V.str)) (.lst ((sortS (ddS ss)).map D.str)) :=
          ⟨_, rfl, Reps.ofStrs _ fun s hs => oks s (ddS_mem.mp ((sortS_perm _).mem_iff.mp hs))⟩
        have x : Ex H1 (upd H1 p (.lst (((sortS (ddS ss)).map SX.S).map V.str))) := Ex.new hp
        exact w5 p _ (A1.back hp) (OH.fresh E1.omut hp) (E1.alloc hp na.mut) (A1.trans x.adv) (na.own (ra_plus hp x))
      · cases e
  · cases e
end
variable {ρ : Env} {Qd : D × Env → Prop} {td : Hid Qd}
theorem r_fUn (g : D → Option D) (f1 : SE) : fUn g f1 ρ = (f1 ρ >>= fun r1 => deref r1.2 r1.1 >>= fun d1 => ofOpt (g d1) >>= fun d => .ok (d, r1.2)) := nr rfl
@[simp ↓] theorem wk_fUn (g : D → Option D) (f1 : SE) : Wk (fUn g f1 ρ) Qd td = Wk (f1 ρ) fun r1 => Wk (deref r1.2 r1.1) fun d1 => Wk (ofOpt (g d1)) fun d => Qd (d, r1.2) := by rw [r_fUn]; repeat' (first | exact wk_ok _ _ _ | exact wk_cond _ _ _ _ _ | refine wk_b fun _ => ?_)
end EV

namespace EV
open PySem PySem.Spec L2 SX
open PyProof.Rows hiding St
/-! ### k in d, k not in d -/
def rDIn (f : Bool → Bool) : V → V → Hp → VK → Prop := fun x y H Q => ∃ a o, y = .ref a ∧ DGet H a x o ∧ Q (.bl (f o.isSome)) H
def dInA (f : Bool → Bool) : D → D → Option D
  | x, .dk kds => (kdOf x).map fun k => .bl (f (lookD kds k).isSome)
  | x, y => dIn f x y
section
variable {X : Cx}
theorem op_dIn (hu : X.A.units + 1 < cLine) : OpR X (compareOp .In) (rDIn id) := by
  intro pins s σ H x y u v Q I rx ry h
  obtain ⟨a, o, rfl, g, q⟩ := h
  cases ry
  exact d_in hu I g rx fun s' I' => ⟨.bl o.isSome, H, I', rfl, q⟩
theorem op_dNotIn (hu : X.A.units + 1 < cLine) : OpR X (compareOp .NotIn) (rDIn not) := by
  intro pins s σ H x y u v Q I rx ry h
  obtain ⟨a, o, rfl, g, q⟩ := h
  cases ry
  exact d_notIn hu I g rx fun s' I' => ⟨.bl (!o.isSome), H, I', rfl, q⟩
theorem inA_of {op : CmpOp} {f : Bool → Bool} (h : OpD X (compareOp op) (dIn f)) (h' : OpR X (compareOp op) (rDIn f)) : OpD X (compareOp op) (dInA f) := by
  obtain ⟨r, hr, qr⟩ := h
  refine ⟨_, hr.or h', fun T O H v1 v2 d1 d2 d Q oh h1 h2 e w => ?_⟩
  by_cases hd : ∃ kds, d2 = .dk kds
  · obtain ⟨kds, rfl⟩ := hd
    have e' : ((kdOf d1).map fun k => D.bl (f (lookD kds k).isSome)) = some d := e
    obtain ⟨k, ek, e2⟩ := Option.map_eq_some_iff.mp e'
    subst e2
    obtain ⟨a, kvs, rfl, h3, h4⟩ := h2.dk
    rcases h4.look k with ⟨z, z'⟩ | ⟨v, d', z1, z2, z3⟩
    · rw [z] at w
      exact .inr ⟨a, none, rfl, .inl ⟨kvs, kdK k, h3, kV_kd h1 ek, z'.symm⟩, w _ H (Ex.refl H) (Rep.bl _)⟩
    · rw [z1] at w
      exact .inr ⟨a, some v, rfl, .inl ⟨kvs, kdK k, h3, kV_kd h1 ek, z2.symm⟩, w _ H (Ex.refl H) (Rep.bl _)⟩
  · have e' : dIn f d1 d2 = some d := by
      cases d2 <;> first | exact e | exact absurd ⟨_, rfl⟩ hd
    exact .inl (qr T O H v1 v2 d1 d2 d Q oh h1 h2 e' w)
theorem od_inA (hu : X.A.units + 65 < cLine) : OpD X (compareOp .In) (dInA id) := inA_of (od_in hu) (op_dIn (by omega))
theorem od_notInA (hu : X.A.units + 65 < cLine) : OpD X (compareOp .NotIn) (dInA not) := inA_of (od_notIn hu) (op_dNotIn (by omega))
end
@[simp] theorem q_inK (f : Bool → Bool) (i : Int) (kds : List (Kd × D)) : dInA f (.int i) (.dk kds) = some (.bl (f (lookD kds (.inl i)).isSome)) := nr rfl
@[simp] theorem q_inKs (f : Bool → Bool) (s : List Nat) (kds : List (Kd × D)) : dInA f (.str s) (.dk kds) = some (.bl (f (lookD kds (.inr s)).isSome)) := nr rfl
end EV

namespace EV
open PySem PySem.Spec L2 SX
open PyProof.Rows hiding St
/-! ### [elt for tg in iter for tg1 in iter1] -/
theorem wipe_get (σ : St) (j : Nat) : ∀ vs : List Nat, (wipe σ vs)[j]? = if j ∈ vs then (σ[j]?).map (fun _ => none) else σ[j]?
  | [] => by simp [wipe]
  | i :: vs => by
    have ih := wipe_get σ j vs
    show ((wipe σ vs).set i none)[j]? = _
    by_cases e : i = j
    · subst e
      rw [if_pos List.mem_cons_self, List.getElem?_set_self']
      rw [ih]
      split <;> cases σ[i]? <;> rfl
    · rw [List.getElem?_set_ne e, ih]
      have : (j ∈ i :: vs) ↔ j ∈ vs := ⟨fun h => (List.mem_cons.mp h).resolve_left (Ne.symm e), List.mem_cons_of_mem _⟩
      simp only [this]
theorem wipe_sub {σ : St} {vs ws : List Nat} (h : ∀ v, v ∈ ws → v ∈ vs) : wipe (wipe σ ws) vs = wipe σ vs := by
  refine List.ext_getElem? fun j => ?_
  rw [wipe_get, wipe_get, wipe_get]
  by_cases a : j ∈ vs
  · rw [if_pos a, if_pos a]
    split <;> cases σ[j]? <;> rfl
  · rw [if_neg a, if_neg a, if_neg fun z => a (h j z)]
def lc2I (vs1 : List Nat) (g1 : D → Env → Res Env) (elt : SE) : List D → List D → Env → Res (List D × Env)
  | [], acc, ρ => .ok (acc, ρ)
  | y :: ys, acc, ρ => noErr (g1 y (wipeE ρ vs1)) >>= fun ρ3 => noErr (elt ρ3) >>= fun r => ofOpt (valOf r.1) >>= fun x => ofOpt (lim (acc.length + 1)) >>= fun _ => lc2I vs1 g1 elt ys (acc ++ [x]) r.2
def lc2L (vs vs1 : List Nat) (g : D → Env → Res Env) (fi1 : Env → Res (List D × Env)) (g1 : D → Env → Res Env) (elt : SE) : List D → List D → Env → Res (List D × Env)
  | [], acc, ρ => .ok (acc, ρ)
  | d :: ds, acc, ρ => noErr (g d (wipeE ρ vs)) >>= fun ρ1 => noErr (fi1 ρ1) >>= fun r => lc2I vs1 g1 elt r.1 acc r.2 >>= fun r2 => lc2L vs vs1 g fi1 g1 elt ds r2.1 r2.2
def fLc2 (vs vs1 : List Nat) (fi : Env → Res (List D × Env)) (g : D → Env → Res Env) (fi1 : Env → Res (List D × Env)) (g1 : D → Env → Res Env) (elt : SE) : Env → Res (D × Env) :=
  fun ρ => fi ρ >>= fun r => lc2L vs vs1 g fi1 g1 elt r.1 [] r.2 >>= fun r2 => .ok (.lst r2.1, restE r.2 r2.2 vs)
section
variable {X : Cx} {S : ES} {W : WX} {pos : Pos}
theorem lc2_can {fi fi1 : Env → Res (List D × Env)} {ts ts1 : List Nat} {g g1 : D → Env → Res Env} {elt : SE} {vs vs1 : List Nat} {wi : TI} (ho : ∀ v, v ∈ vs → v ∉ S.ow) (hf : ∀ v, v ∈ vs → v ∉ S.fx) (hts : ∀ i, i ∈ ts → i ∈ vs) (hv : ∀ i, i ∈ vs1 → i ∈ vs) (hts1 : ∀ i, i ∈ ts1 → i ∈ vs1)
    (qi : ∀ (C : EC) (σ : St) (H : Hp) (ρ : Env) (R : It → Hp → Prop), ER X.K S C σ H ρ → Wp (fi ρ) (XOk X.K S W C) (fun r => ∀ J H', ER X.K S C σ H' r.2 → Adv (C.mo S σ ρ) H (C.mo S σ r.2) H' → ItD X.K S J r.1 (C.mo S σ r.2) H' → R J H') → wi σ H R)
    (C : EC) (σ : St) (H : Hp) (ρ : Env) (Q : VK) (E : ER X.K S C σ H ρ)
    (w : Wp (fLc2 vs vs1 fi g fi1 g1 elt ρ) (XOk X.K S W C) (fun r => ∀ p H', H p = none → ¬ C.O S σ r.2 p → ER X.K S (C.pl [p]) σ H' r.2 → Adv (C.mo S σ ρ) H (C.mo S σ r.2) H' → OwnAt X.K S.T ((C.pl [p]).O S σ r.2) H' p r.1 → Q (.ref p) H')) :
    tLc2 wi (canG X.K S ts g) tYes (canI X.K S WF fi1) (canG X.K S ts1 g1) tYes (canE X.K S WF elt) vs vs1 σ H Q := by
  refine qi C σ H ρ _ E ((Wp.bind w).mono (fun _ _ h => h) fun r1 _ w1 J H1 E1 A1 I1 => ?_)
  obtain ⟨xs, ρ1⟩ := r1
  intro L hL
  have ho1 : ∀ v, v ∈ vs1 → v ∉ S.ow := fun v h => ho v (hv v h)
  have hf1 : ∀ v, v ∈ vs1 → v ∉ S.fx := fun v h => hf v (hv v h)
  have hC0 : C.H0 L = none := E1.h0 hL
  have nO : ¬ C.O S σ ρ1 L := OH.fresh E1.omut hL
  have nM : ¬ EC.M S σ ρ1 L := fun z => nO (.inr z)
  -- what comes out at the end
  let Post : List D × Env → Prop := fun r => ∀ p H2, H p = none → ¬ C.O S σ (restE ρ1 r.2 vs) p → ER X.K S (C.pl [p]) σ H2 (restE ρ1 r.2 vs) → Adv (C.mo S σ ρ) H (C.mo S σ (restE ρ1 r.2 vs)) H2 → OwnAt X.K S.T ((C.pl [p]).O S σ (restE ρ1 r.2 vs)) H2 p (.lst r.1) → Q (.ref p) H2
  -- a moment: some state with the block's names aside as before
  let At : St → Env → List V → List D → Hp → Prop := fun σ' ρ' acc ds H' => wipe σ' vs = wipe σ vs ∧ ER X.K S (C.pl [L]) σ' H' ρ' ∧ Adv (C.mo S σ ρ1) H1 ((C.pl [L]).mo S σ' ρ') H' ∧
    H' L = some (.lst acc) ∧ Reps X.K S.T ((C.pl [L]).O S σ' ρ') H' acc ds ∧ acc.length = ds.length ∧ ¬ EC.M S σ' ρ' L
  let Pv : Nat → Hp → Prop := fun i H' => ∃ σ' ρ' acc ds, At σ' ρ' acc ds H' ∧ Wp (lc2L vs vs1 g fi1 g1 elt (xs.drop i) ds ρ') (XOk X.K S W C) (fun r => Post r)
  refine ⟨fun i m H' => m = xs.length - i ∧ i ≤ xs.length ∧ Pv i H', ⟨xs.length, rfl, Nat.zero_le _, σ, ρ1, [], [], ?_, ?_⟩, ?_⟩
  · have x : Ex H1 (upd H1 L (.lst [])) := Ex.new hL
    exact ⟨rfl, E1.alloc (u := .lst []) hL trivial, adv_plus hL x, upd_same, .nil, rfl, nM⟩
  · exact (Wp.bind w1).mono (fun _ _ h => h) fun r _ h => h
  rintro i m H' ⟨rfl, hi, σ0, ρ', acc, ds, ⟨hz0, E', A', hacc, rs, hle, nm⟩, w'⟩
  have Aw : Adv (C.mo S σ ρ1) H1 ((C.pl [L]).mo S (wipe σ vs) (wipeE ρ' vs)) H' := by rw [← hz0, mo_wipe ho]; exact A'
  have Ew : ER X.K S (C.pl [L]) (wipe σ vs) H' (wipeE ρ' vs) := hz0 ▸ E'.wiped ho hf
  by_cases hlt : i < xs.length
  · refine .inr ⟨I1.go _ H' i Aw.ra hlt, fun H2 => Pv (i + 1) H2, fun H2 h => ⟨xs.length - (i + 1), by omega, rfl, hlt, h⟩, fun x H2 y => ?_⟩
    rw [drop_at hlt] at w'
    obtain ⟨ex, rp⟩ := I1.yld (C.pl [L]) S (wipe σ vs) H' (wipeE ρ' vs) i x H2 xs[i] rfl Ew Aw.ra y (by simp [hlt])
    have w' : Wp (noErr (g xs[i] (wipeE ρ' vs)) >>= fun ρ1 => noErr (fi1 ρ1) >>= fun r => lc2I vs1 g1 elt r.1 ds r.2 >>= fun r2 => lc2L vs vs1 g fi1 g1 elt (xs.drop (i + 1)) r2.1 r2.2) _ _ := w'
    refine ⟨C.pl [L], wipeE ρ' vs, xs[i], Ew.ext ex, rp, (noErr_wp w').mono (fun _ _ h => h) fun ρ3 _ w3 σ2 H3 E3 A3 z3 => ?_⟩
    have hw2 : wipe σ2 vs = wipe σ vs := (z3 vs hts).trans (wipe_sub fun _ m => m)
    refine ⟨hw2, ?_⟩
    have nmw : ¬ EC.M S (wipe σ vs) (wipeE ρ' vs) L := by rw [← hz0]; exact fun z => nm ((M_wipe ho).mp z)
    have rsw : Reps X.K S.T ((C.pl [L]).O S (wipe σ vs) (wipeE ρ' vs)) H' acc ds := by rw [← hz0, O_wipe ho]; exact rs
    have hL2 : H2 L = some (.lst acc) := ex L _ hacc
    have hL3 : H3 L = some (.lst acc) := A3.st L _ nmw hL2
    have nm3 : ¬ EC.M S σ2 ρ3 L := fun z => (A3.mn L z).elim nmw fun e => by rw [hL2] at e; cases e
    refine ⟨C.pl [L], ρ3, E3, (noErr_wp w3).mono (fun _ _ h => h) fun r4 _ w4 J1 H4 E4 A4 I4 => ?_⟩
    obtain ⟨ys, ρ4⟩ := r4
    have hL4 : H4 L = some (.lst acc) := A4.st L _ nm3 hL3
    have nm4 : ¬ EC.M S σ2 ρ4 L := fun z => (A4.mn L z).elim nm3 fun e => by rw [hL3] at e; cases e
    have A5 := ((Aw.trans ex.adv).trans A3).trans A4
    have rs4 := ((rsw.adv ex.ra).adv A3.ra).adv A4.ra
    -- the second loop
    let Pi : Nat → Hp → Prop := fun j H' => ∃ σ' ρ' acc ds, At σ' ρ' acc ds H' ∧ wipe σ' vs1 = wipe σ2 vs1 ∧ RA ((C.pl [L]).O S σ2 ρ4) H4 ((C.pl [L]).O S σ' ρ') H' ∧
      Wp (lc2I vs1 g1 elt (ys.drop j) ds ρ') (XOk X.K S W C) (fun r2 => Wp (lc2L vs vs1 g fi1 g1 elt (xs.drop (i + 1)) r2.1 r2.2) (XOk X.K S W C) (fun r => Post r))
    refine ⟨fun j k H' => k = ys.length - j ∧ j ≤ ys.length ∧ Pi j H', ⟨ys.length, rfl, Nat.zero_le _, σ2, ρ4, acc, ds, ⟨hw2, E4, A5, hL4, rs4, hle, nm4⟩, rfl, (Adv.refl ((C.pl [L]).mo S σ2 ρ4) H4).ra, Wp.bind w4⟩, ?_⟩
    rintro j k H6 ⟨rfl, hj, σ', ρ6, acc6, ds6, ⟨hz6, E6, A6, hacc6, rs6, hle6, nm6⟩, hs6, B6, w6⟩
    have Ev : ER X.K S (C.pl [L]) (wipe σ2 vs1) H6 (wipeE ρ6 vs1) := hs6 ▸ E6.wiped ho1 hf1
    have Bv : RA ((C.pl [L]).O S σ2 ρ4) H4 ((C.pl [L]).O S (wipe σ2 vs1) (wipeE ρ6 vs1)) H6 := by rw [← hs6, O_wipe ho1]; exact B6
    have Av : Adv (C.mo S σ ρ1) H1 ((C.pl [L]).mo S (wipe σ2 vs1) (wipeE ρ6 vs1)) H6 := by rw [← hs6, mo_wipe ho1]; exact A6
    have nmv : ¬ EC.M S (wipe σ2 vs1) (wipeE ρ6 vs1) L := by rw [← hs6]; exact fun z => nm6 ((M_wipe ho1).mp z)
    have rsv : Reps X.K S.T ((C.pl [L]).O S (wipe σ2 vs1) (wipeE ρ6 vs1)) H6 acc6 ds6 := by rw [← hs6, O_wipe ho1]; exact rs6
    by_cases hjt : j < ys.length
    · refine .inr ⟨I4.go ((C.pl [L]).mo S (wipe σ2 vs1) (wipeE ρ6 vs1)) H6 j Bv hjt, fun H7 => Pi (j + 1) H7, fun H7 h => ⟨ys.length - (j + 1), by omega, rfl, hjt, h⟩, fun x7 H7 y7 => ?_⟩
      rw [drop_at hjt] at w6
      obtain ⟨ex7, rp7⟩ := I4.yld (C.pl [L]) S (wipe σ2 vs1) H6 (wipeE ρ6 vs1) j x7 H7 ys[j] rfl Ev Bv y7 (by simp [hjt])
      have w6 : Wp (noErr (g1 ys[j] (wipeE ρ6 vs1)) >>= fun ρ3 => noErr (elt ρ3) >>= fun r => ofOpt (valOf r.1) >>= fun x => ofOpt (lim (ds6.length + 1)) >>= fun _ => lc2I vs1 g1 elt (ys.drop (j + 1)) (ds6 ++ [x]) r.2) _ _ := w6
      refine ⟨C.pl [L], wipeE ρ6 vs1, ys[j], Ev.ext ex7, rp7, (noErr_wp w6).mono (fun _ _ h => h) fun ρ8 _ w8 σ8 H8 E8 A8 z8 => ?_⟩
      have hw8 : wipe σ8 vs1 = wipe σ2 vs1 := (z8 vs1 hts1).trans (wipe_sub fun _ m => m)
      have hw9 : wipe σ8 vs = wipe σ vs := (z8 vs fun i hi => hv i (hts1 i hi)).trans ((wipe_sub hv).trans hw2)
      refine ⟨hw8, ?_⟩
      have hL7 : H7 L = some (.lst acc6) := ex7 L _ hacc6
      have hL8 : H8 L = some (.lst acc6) := A8.st L _ nmv hL7
      have nm8 : ¬ EC.M S σ8 ρ8 L := fun z => (A8.mn L z).elim nmv fun e => by rw [hL7] at e; cases e
      refine ⟨C.pl [L], ρ8, E8, (noErr_wp w8).mono (fun _ _ h => h) fun r9 _ w9 v9 H9 E9 A9 R9 => ?_⟩
      obtain ⟨x9, e9, w10⟩ := opt_wp w9
      obtain ⟨u9, l9, w11⟩ := opt_wp w10
      have hz9 : ds6.length + 1 ≤ sizeLine := lim_ok l9
      have hL9 : H9 L = some (.lst acc6) := A9.st L _ nm8 hL8
      have nm9 : ¬ EC.M S σ8 r9.2 L := fun z => (A9.mn L z).elim nm8 fun e => by rw [hL8] at e; cases e
      have rs9 := ((rsv.adv ex7.ra).adv A8.ra).adv A9.ra
      refine ⟨acc6, hL9, by omega, ?_⟩
      have E10 := E9.mutNew (u := .lst (acc6 ++ [v9])) hC0 nm9 hL9 trivial trivial
      have ra10 : RA ((C.pl [L]).O S σ8 r9.2) H9 ((C.pl [L]).O S σ8 r9.2) (upd H9 L (.lst (acc6 ++ [v9]))) := by
        have op : (C.pl [L]).O S σ8 r9.2 L := .inl (.inr (List.mem_singleton.mpr rfl))
        refine ⟨fun b v n h => ?_, fun b z => .inl z, fun b h => ?_⟩
        · have ne : b ≠ L := fun e => n (e ▸ op)
          rcases h with h | ⟨o, h⟩
          · exact .inl (by rw [upd_ne ne]; exact h)
          · exact .inr ⟨o, by rw [upd_ne ne]; exact h⟩
        · by_cases e : b = L
          · subst e; rw [upd_same]; exact some_ne rfl
          · rw [upd_ne e]; exact h
      have Ad : Adv (C.mo S σ ρ1) H1 ((C.pl [L]).mo S σ8 r9.2) (upd H9 L (.lst (acc6 ++ [v9]))) := (((Av.trans ex7.adv).trans A8).trans A9).mutNew hL (by rw [hL9]; exact some_ne rfl)
      have Bd : RA ((C.pl [L]).O S σ2 ρ4) H4 ((C.pl [L]).O S σ8 r9.2) (upd H9 L (.lst (acc6 ++ [v9]))) := ((Bv.trans ex7.ra).trans A8.ra).trans (A9.ra.trans ra10)
      exact ⟨σ8, r9.2, acc6 ++ [v9], ds6 ++ [x9], ⟨hw9, E10, Ad, upd_same, (rs9.adv ra10).snoc ((R9.val e9).adv ra10), by simp [hle6], nm9⟩, hw8, Bd, w11⟩
    · have ej : j = ys.length := by omega
      subst ej
      rw [List.drop_length] at w6
      exact .inl ⟨I4.stop ((C.pl [L]).mo S (wipe σ2 vs1) (wipeE ρ6 vs1)) H6 Bv, σ', ρ6, acc6, ds6, ⟨hz6, E6, A6, hacc6, rs6, hle6, nm6⟩, w6⟩
  · have ei : i = xs.length := by omega
    subst ei
    rw [List.drop_length] at w'
    refine .inl ⟨I1.stop _ H' Aw.ra, ?_⟩
    have hl : ρ'.length = ρ1.length := by
      have h1 := Ew.len
      rw [wipeE_length, wipe_length] at h1
      exact h1.trans E1.len.symm
    have E2 : ER X.K S (C.pl [L]) σ H' (restE ρ1 ρ' vs) := Ew.rest E1 Aw.ra ho E1.fx
    have emo : (C.pl [L]).mo S σ (restE ρ1 ρ' vs) = (C.pl [L]).mo S (wipe σ vs) (wipeE ρ' vs) := mo_rest hl ho
    have A2 : Adv (C.mo S σ ρ1) H1 (C.mo S σ (restE ρ1 ρ' vs)) H' := by
      rw [← emo] at Aw
      exact Aw.trans adv_unplus
    have nmw : ¬ EC.M S (wipe σ vs) (wipeE ρ' vs) L := by rw [← hz0]; exact fun z => nm ((M_wipe ho).mp z)
    have hm : EC.M S σ (restE ρ1 ρ' vs) L → False := fun z => nmw ((M_rest hl ho).mp z)
    refine w' L H' (A1.back hL) (fun z => z.elim (fun z => nO (.inl z)) hm) E2 (A1.trans A2) ⟨acc, hacc, ?_⟩
    rw [show (C.pl [L]).O S σ (restE ρ1 ρ' vs) = (C.pl [L]).O S (wipe σ vs) (wipeE ρ' vs) from congrArg MO.O emo, ← hz0, O_wipe ho]
    exact rs
end
end EV

namespace EV
open PySem PySem.Spec L2 SX
open PyProof.Rows hiding St
section
variable {X : Cx} {S : ES} {W : WX} {pos : Pos}
/-- [elt for tg in iter for tg1 in iter1] -/
theorem ef_lc2 {elt tg iter tg1 iter1 : Expr} {scope : Scope} {own : List (Str × Nat)} {vs1 ts ts1 : List Nat} {fi fi1 : Env → Res (List D × Env)} {g g1 : D → Env → Res Env} {fe : SE} (hc : X.calm = true) (hN : X.N.Nodup) (ho : ∀ v, v ∈ own.map (·.2) → v ∉ S.ow) (hf : ∀ v, v ∈ own.map (·.2) → v ∉ S.fx) (hts : ∀ i, i ∈ ts → i ∈ own.map (·.2)) (hv : ∀ i, i ∈ vs1 → i ∈ own.map (·.2)) (hts1 : ∀ i, i ∈ ts1 → i ∈ vs1)
    (hi : EvI X S W tg iter fi) (ok : BlkOk X.N X.env.scope scope own)
    (hg : ∀ (s : Shared) (H : Hp) (C : Addr) (cl : List (Str × Addr)) (fp : List Addr), EvG (X.blk s H scope (compEnvC scope cl C X.env) fp) S ts tg g)
    (hi1 : ∀ (s : Shared) (H : Hp) (C : Addr) (cl : List (Str × Addr)) (fp : List Addr), EvI (X.blk s H scope (compEnvC scope cl C X.env) fp) S WF tg1 iter1 fi1)
    (hg1 : ∀ (s : Shared) (H : Hp) (C : Addr) (cl : List (Str × Addr)) (fp : List Addr), EvG (X.blk s H scope (compEnvC scope cl C X.env) fp) S ts1 tg1 g1)
    (he : ∀ (s : Shared) (H : Hp) (C : Addr) (cl : List (Str × Addr)) (fp : List Addr), EvE (X.blk s H scope (compEnvC scope cl C X.env) fp) S WF elt fe) (hs : ∀ x, foldedSetIterable iter X.env x = pure x := by intro _; rfl) (hs1 : ∀ env x, foldedSetIterable iter1 env x = pure x := by intro _ _; rfl) :
    EvF X S W (.ListComp elt [⟨tg, iter, [], 0⟩, ⟨tg1, iter1, [], 0⟩] scope pos) (fLc2 (own.map (·.2)) vs1 fi g fi1 g1 fe) := by
  obtain ⟨wi, pi, qi⟩ := hi
  refine ⟨_, pe_lc2 hc hN pi ok hv (g := canG X.K S ts g) (tt := tYes) (wi1 := canI X.K S WF fi1) (g1 := canG X.K S ts1 g1) (tt1 := tYes) (te := canE X.K S WF fe) (fun s H C cl fp => (hg s H C cl fp).can) (fun _ _ _ _ _ => pts_nil) (fun s H C cl fp => (hi1 s H C cl fp).can) (fun s H C cl fp => (hg1 s H C cl fp).can) (fun _ _ _ _ _ => pts_nil) (fun s H C cl fp => (he s H C cl fp).can) hs hs1, fun C σ H ρ Q E w => ?_⟩
  exact lc2_can ho hf hts hv hts1 qi C σ H ρ Q E w
theorem lc2_parts {elt tg iter tg1 iter1 : Expr} {scope : Scope} {own : List (Str × Nat)} {vs1 ts ts1 : List Nat} {fi fi1 : Env → Res (List D × Env)} {g g1 : D → Env → Res Env} {fe : SE} {i : Nat} {y : Str} {py spos : Pos} (hc : X.calm = true) (hN : X.N.Nodup) (ho : ∀ v, v ∈ own.map (·.2) → v ∉ S.ow) (hf : ∀ v, v ∈ own.map (·.2) → v ∉ S.fx) (hts : ∀ i, i ∈ ts → i ∈ own.map (·.2)) (hv : ∀ i, i ∈ vs1 → i ∈ own.map (·.2)) (hts1 : ∀ i, i ∈ ts1 → i ∈ vs1)
    (hy : X.N[i]? = some y) (hyl : X.env.scope.names.lookup y = some .local) (hk : X.env.scope.kind = .function) (hl : (py.line == pos.line) = true) (ha : (scope.names.any fun (n, k) => n == y && (k == .local || k == .cell)) = false)
    (hi : EvI X S W tg iter fi) (ok : BlkOk X.N X.env.scope scope own)
    (hg : ∀ (s : Shared) (H : Hp) (C : Addr) (cl : List (Str × Addr)) (fp : List Addr), EvG (X.blk s H scope (compEnvC scope cl C X.env) fp) S ts tg g)
    (hi1 : ∀ (s : Shared) (H : Hp) (C : Addr) (cl : List (Str × Addr)) (fp : List Addr), EvI (X.blk s H scope (compEnvC scope cl C X.env) fp) S WF tg1 iter1 fi1)
    (hg1 : ∀ (s : Shared) (H : Hp) (C : Addr) (cl : List (Str × Addr)) (fp : List Addr), EvG (X.blk s H scope (compEnvC scope cl C X.env) fp) S ts1 tg1 g1)
    (he : ∀ (s : Shared) (H : Hp) (C : Addr) (cl : List (Str × Addr)) (fp : List Addr), EvE (X.blk s H scope (compEnvC scope cl C X.env) fp) S WF elt fe) (hs : ∀ x, foldedSetIterable iter X.env x = pure x := by intro _; rfl) (hs1 : ∀ env x, foldedSetIterable iter1 env x = pure x := by intro _ _; rfl) :
    ∃ t, PS X (.Assign [.Name y py] (.ListComp elt [⟨tg, iter, [], 0⟩, ⟨tg1, iter1, [], 0⟩] scope pos) spos) (tAsg t (gName i)) ∧ SemF X S W t (fLc2 (own.map (·.2)) vs1 fi g fi1 g1 fe) := by
  obtain ⟨wi, pi, qi⟩ := hi
  refine ⟨_, ps_setLc2 hc hN hy hyl (sw_true hk hyl hl ha) pi ok hv (g := canG X.K S ts g) (tt := tYes) (wi1 := canI X.K S WF fi1) (g1 := canG X.K S ts1 g1) (tt1 := tYes) (te := canE X.K S WF fe) (fun s H C cl fp => (hg s H C cl fp).can) (fun _ _ _ _ _ => pts_nil) (fun s H C cl fp => (hi1 s H C cl fp).can) (fun s H C cl fp => (hg1 s H C cl fp).can) (fun _ _ _ _ _ => pts_nil) (fun s H C cl fp => (he s H C cl fp).can) hs hs1, fun C σ H ρ Q E w => ?_⟩
  exact lc2_can ho hf hts hv hts1 qi C σ H ρ Q E w
end
/-! running it -/
variable {ρ : Env} {Qd : D × Env → Prop} {td : Hid Qd}
def lc2R (vs vs1 : List Nat) (g : D → Env → Res Env) (fi1 : Env → Res (List D × Env)) (g1 : D → Env → Res Env) (elt : SE) (xs : List D) (ρ : Env) : Res (D × Env) := lc2L vs vs1 g fi1 g1 elt xs [] ρ >>= fun r2 => .ok (.lst r2.1, restE ρ r2.2 vs)
@[simp ↓] theorem wk_fLc2 (vs vs1 : List Nat) (fi fi1 : Env → Res (List D × Env)) (g g1 : D → Env → Res Env) (elt : SE) : Wk (fLc2 vs vs1 fi g fi1 g1 elt ρ) Qd td = Wk (fi ρ) fun r => Wk (lc2R vs vs1 g fi1 g1 elt r.1 r.2) Qd td := by
  have e : fLc2 vs vs1 fi g fi1 g1 elt ρ = (fi ρ >>= fun r => lc2R vs vs1 g fi1 g1 elt r.1 r.2) := rfl
  rw [e]
  exact wk_b fun r => rfl
theorem wk_lc2In {α : Type} {vs1 : List Nat} {g1 : D → Env → Res Env} {elt : SE} {e : α → D} {Q : List D × Env → Prop} {t : Hid Q} (J : List α → List D → Env → Prop)
    (step : ∀ a rest acc ρ, J (a :: rest) acc ρ → Wk (g1 (e a) (wipeE ρ vs1)) fun ρ1 => Wk (elt ρ1) fun r => Wk (ofOpt (valOf r.1)) fun x => Wk (ofOpt (lim (acc.length + 1))) fun _ => Hold (J rest (acc ++ [x]) r.2)) (fin : ∀ acc ρ, J [] acc ρ → Q (acc, ρ)) :
    ∀ (ts : List α) (xs acc : List D) (ρ : Env), xs = ts.map e → J ts acc ρ → Wk (lc2I vs1 g1 elt xs acc ρ) Q t
  | [], _, acc, ρ, hx, i => by
    subst hx
    exact ⟨_, rfl, fin acc ρ i⟩
  | a :: ts, _, acc, ρ, hx, i => by
    subst hx
    obtain ⟨ρ1, h1, ⟨dv, ρ3⟩, h2, d, h3, u, h4, h5⟩ := step a ts acc ρ i
    obtain ⟨r, h6, h7⟩ := wk_lc2In J step fin ts _ (acc ++ [d]) ρ3 rfl h5 (t := t)
    refine ⟨r, ?_, h7⟩
    have h3' : ofOpt (valOf dv) = .ok d := h3
    have e0 : lc2I vs1 g1 elt ((a :: ts).map e) acc ρ = (noErr (g1 (e a) (wipeE ρ vs1)) >>= fun ρ3 => noErr (elt ρ3) >>= fun r => ofOpt (valOf r.1) >>= fun x => ofOpt (lim (acc.length + 1)) >>= fun _ => lc2I vs1 g1 elt (ts.map e) (acc ++ [x]) r.2) := rfl
    rw [e0, h1]
    simp only [r_noErr, ok_bind, h2, h3', h4, h6]
theorem wk_lc2 {α : Type} {vs vs1 : List Nat} {g : D → Env → Res Env} {fi1 : Env → Res (List D × Env)} {g1 : D → Env → Res Env} {elt : SE} {xs : List D} {ρ : Env} {Q : D × Env → Prop} {t : Hid Q} (ts : List α) (e : α → D) (J : List α → List D → Env → Prop) (hx : xs = ts.map e) (h0 : J ts [] ρ)
    (step : ∀ a rest acc ρ, J (a :: rest) acc ρ → Wk (g (e a) (wipeE ρ vs)) fun ρ1 => Wk (fi1 ρ1) fun r => Wk (lc2I vs1 g1 elt r.1 acc r.2) fun r2 => Hold (J rest r2.1 r2.2))
    (fin : ∀ ds ρ', J [] ds ρ' → Q (.lst ds, restE ρ ρ' vs)) : Wk (lc2R vs vs1 g fi1 g1 elt xs ρ) Q t := by
  subst hx
  have go : ∀ (ts : List α) (acc : List D) (ρ : Env), J ts acc ρ → ∃ ds ρ', lc2L vs vs1 g fi1 g1 elt (ts.map e) acc ρ = .ok (ds, ρ') ∧ J [] ds ρ' := by
    intro ts
    induction ts with
    | nil => intro acc ρ i; exact ⟨acc, ρ, rfl, i⟩
    | cons a ts ih =>
      intro acc ρ i
      obtain ⟨ρ1, h1, ⟨ys, ρ2⟩, h2, ⟨acc2, ρ3⟩, h3, h4⟩ := step a ts acc ρ i
      obtain ⟨ds, ρ', h5, h6⟩ := ih acc2 ρ3 h4
      refine ⟨ds, ρ', ?_, h6⟩
      have e0 : lc2L vs vs1 g fi1 g1 elt ((a :: ts).map e) acc ρ = (noErr (g (e a) (wipeE ρ vs)) >>= fun ρ1 => noErr (fi1 ρ1) >>= fun r => lc2I vs1 g1 elt r.1 acc r.2 >>= fun r2 => lc2L vs vs1 g fi1 g1 elt (ts.map e) r2.1 r2.2) := rfl
      have h3' : lc2I vs1 g1 elt ys acc ρ2 = .ok (acc2, ρ3) := h3
      rw [e0, h1]
      simp only [r_noErr, ok_bind, h2, h3', h5]
  obtain ⟨ds, ρ', h1, h2⟩ := go ts [] ρ h0
  refine ⟨_, ?_, fin ds ρ' h2⟩
  unfold lc2R
  rw [h1]
  rfl
end EV

/-! EVX: t.count(k) of ints, sorted(set(t)) of a tuple of ints, list(range(..)), tuple(range(..)) -/
namespace EVX
open PySem PySem.Spec L2
open PyProof.Rows hiding St
section
variable {X : Cx} {pos p p2 q cpos apos : Pos}
/-- a plain tuple -/
def tyT (K : PySem.W.Frag) (x : V) (H : Hp) : Prop := ∃ a, x = .ref a ∧ ((∃ (o : Obj) (vs : List V), o.dict = none ∧ Rd H a (.frz o (.tup vs))) ∨ ∃ o, K.lookup a = some o ∧ o.cls = .type "tuple" ∧ o.dict = none)
theorem tyT_is {pins : List (Addr × Obj)} {σ : St} {H : Hp} {s : Shared} {x : V} {v : Value} (I : Inv X pins σ H s) (r : RelV x v) (ty : tyT X.K x H) : s.TypeIs v "tuple" ∧ ∀ a, v = .ref a → ∃ ob, s.heap.get? a = some ob ∧ ob.dict = none := by
  obtain ⟨a, rfl, ty⟩ := ty
  cases r
  have z : ∃ o, s.heap.get? a = some o ∧ o.cls = .type "tuple" ∧ o.dict = none := by
    rcases ty with ⟨o, vs, hd, h | ⟨o2, h⟩⟩ | ⟨o, h1, h2, h3⟩
    · obtain ⟨e, _, its, _, o', e', hc, _⟩ := I.hok a _ h
      rw [e] at e'
      cases e'
      exact ⟨o, e, hc, hd⟩
    · obtain ⟨_, e, _, its, _, o', e', hc, _⟩ := I.hok a _ h
      rw [e] at e'
      cases e'
      exact ⟨o, e, hc, hd⟩
    · exact ⟨o, I.kIn a o h1, h2, h3⟩
  obtain ⟨o, e, hc, hd⟩ := z
  exact ⟨⟨o, e, hc⟩, fun b hb => by cases hb; exact ⟨o, e, hd⟩⟩
def tCnt (K : PySem.W.Frag) (to : TE) (t : TA) : TE := fun σ H Q => to σ H fun x H1 => tyT K x H1 ∧ t σ H1 fun xs H2 => ∃ (a : Addr) (ns : List Int) (k : Int), x = .ref a ∧ xs = [.int k] ∧ SqT K H2 a (ns.map V.int) ∧ Q (.int ((ns.count k : Nat) : Int)) H2
theorem pe_count {o e : Expr} {to : TE} {t : TA} (ho : PE X o to) (ha : PA X [e] t)
    (hbase : attributeBase o "count" X.env (eval o X.env) = eval o X.env := by rfl)
    (hfew : ((backTo cpos (starEach [e] X.env)).all (fun x => !x.1) && (backToKw cpos (keywordEach [] X.env)).all (fun x => x.1.isSome) && decide ([e].length + ([] : List Keyword).length + (if ([] : List Keyword).isEmpty then 0 else 1) < 30)) = true := by rfl)
    (hline : (apos.endLine == cpos.line) = true := by rfl) (hs : starEach [e] X.env = (false, eval e X.env) :: starEach [] X.env := by rfl) (hplain : (backTo cpos (starEach [] X.env)).any (·.1) = false := by rfl) :
    PE X (.Call (.Attribute o "count" apos) [e] [] cpos) (tCnt X.K to t) := by
  refine ⟨fun pins s σ H Q I h => wpAny_Call_method_late hbase hfew hline rfl (thn (ho.run pins s σ H _ I h) fun v s1 ⟨x, H1, I1, r1, ty, q1⟩ => ?_)⟩
  obtain ⟨h1, h2⟩ := tyT_is I1 r1 ty
  refine ⟨"tuple", "tuple.count", PySem.F.plainAttrs_tuple, PySem.F.slot_tuple_count, PySem.F.type_tuple_count, h1, h2, ?_⟩
  have hA := ha.run cpos pins s1 σ H1 _ I1 q1
  rw [hs] at hA ⊢
  refine Calls.callWith_builtin (by show (false || (backTo cpos (starEach [] X.env)).any (·.1)) = false; rw [hplain] <;> rfl) (Calls.evalArgs_plain (thn hA fun us s2 ⟨vs, H2, I2, r2, q2⟩ => ?_))
  obtain ⟨a, ns, k, rfl, rfl, hq, q2⟩ := q2
  cases r1
  obtain ⟨u, rfl, ru⟩ := vals1 r2
  obtain ⟨t, rfl⟩ := ru
  obtain ⟨its, r, ⟨⟨cls, dd, data, sl⟩, hob, hc, n, hd⟩, hz⟩ := I2.tuple hq
  simp only at hc hd
  subst hc hd
  have hi : IntsAre its ns := by simpa using ints_of_vals r
  show wpAny _ _ (call (Value.builtin "tuple.count") [.ref a, .int k t]) _ _ _
  refine call_meets PySem.F.slot_tuple_count ⟨_, hob, rfl⟩ PySem.F.entry_tuple_count (PySem.F.args_tuple_count_2 _ _) (PySem.SeqAt.tuple_countAt a its.toArray n dd sl (.int k t) (isInt k)) ⟨hob, fun y hy => (eq_isInt k t hi y (by simpa using hy)).at _ _, ?_⟩
  rw [show its.toArray.toList = its from rfl, countP_isInt k hi]
  exact ⟨.int ((ns.count k : Nat) : Int), H2, I2.tok _, ⟨_, rfl⟩, q2⟩
/-- sorted(set(t)), ints -/
def tSortSetI (K : PySem.W.Frag) (ta : TE) : TE := fun σ H Q => ta σ H fun x H1 => ∃ (l : Addr) (xs : List Int), x = .ref l ∧ SqT K H1 l (xs.map V.int) ∧ xs.length < 63 ∧
  ∀ (ys : List Int) (p : Addr), ys.Pairwise (· < ·) → (∀ k, k ∈ ys ↔ k ∈ xs) → H1 p = none → Q (.ref p) (upd H1 p (.lst (ys.map V.int)))
theorem pe_sortSetI {a : Expr} {ta : TE} (hc : X.calm = true) (hg : Gl X "sorted") (hm : X.mg "sorted" = none) (hg2 : Gl X "set") (hm2 : X.mg "set" = none) (ha : PE X a ta)
    (na : starEach [a] X.env = (false, eval a X.env) :: starEach [] X.env := by rfl) : PE X (.Call (.Name "sorted" p) [.Call (.Name "set" p2) [a] [] q] [] pos) (tSortSetI X.K ta) := by
  refine ⟨fun pins s σ H Q I h => Call_ (ld_blt I hg hm rfl (PyProof.Rows.callWith_builtin1 (PyProof.Rows.args_cons ?_ rfl) rfl rfl))⟩
  refine Call_ (ld_blt I hg2 hm2 boot_set (PyProof.Rows.callWith_type1 (PyProof.Rows.args_cons (thn (ha.run pins s σ H _ I h) fun v s1 ⟨x, H1, I1, r1, q1⟩ => PyProof.Rows.args_nil ?_) na) na rfl))
  obtain ⟨l, xs, rfl, hq, h1, q1⟩ := q1
  cases r1
  obtain ⟨its, r, pl, hz⟩ := I1.tuple hq
  refine call_set_tupI xs (I1.ok.hd hc) (show s1.heap.IsTuple l its.toArray from pl) (ints_of_vals r) (by unfold scanBound; omega) fun h' tk c R hcl hk => PyProof.Rows.args_nil ?_
  have I2 : Inv X pins σ H1 { s1 with heap := h', toks := tk } := I1.kept fun b o e => hk b o e
  refine sorted_set (s := { s1 with heap := h', toks := tk }) R (I2.ok.hd hc) (by omega) fun s' p0 out c2 ys k g o hp hl hi hs hm0 hlen => ?_
  have hn : H1 p0 = none := I2.hok.fresh hp
  have len : (ys.map V.int).length ≤ sizeLine := by rw [List.length_map, sizeLine_eq]; omega
  have J : Inv X pins σ (upd H1 p0 (.lst (ys.map V.int))) { heap := s'.heap, gens := s'.gens, drawn := s'.drawn, toks := s'.toks, os := s1.os } :=
    Inv.call (s := { s1 with heap := h', toks := tk }) (ch := []) I2 (Un.laid k hp hn) (I2.hok.laid k hp ⟨len, out.toList, c2, vals_of_ints hi, hl⟩) (by rw [g]; exact I2.bare) (fun _ z => nomatch z)
  have e : s' = { heap := s'.heap, gens := s'.gens, drawn := s'.drawn, toks := s'.toks, os := s1.os } := by
    cases s'
    cases s1
    cases o
    rfl
  rw [e]
  exact ⟨.ref p0, _, J, rfl, q1 ys p0 hs (fun k => by rw [hm0 k, decide_eq_true_eq]) hn⟩
end
/-! ### ranges as arguments -/
section
variable {X : Cx} {a b c e : Expr} {ta : TA} {p pos : Pos}
abbrev TR := St → Hp → (Int → Int → Nat → Hp → Prop) → Prop
def PRgN (X : Cx) (e : Expr) (t : TR) : Prop :=
  ∀ (pins : List (Addr × Obj)) (s : Shared) (σ : St) (H : Hp) (Q : Int → Int → Nat → Hp → Prop), Inv X pins σ H s → t σ H Q →
    wpAny (model X.prog X.w) X.A (eval e X.env) (fun x s' => ∃ r i j c t u v H' n, x = .ref r ∧ IsRange s'.heap r i j c t u v ∧ Inv X pins σ H' s' ∧ Builtin.Range.small i j c = true ∧ Builtin.Range.rangeSize i j c = ((n : Nat) : Int) ∧ n ≤ 2 ^ 24 ∧ Q i c n H') X.xe s
theorem prgN_1 (hg : Gl X "range") (hm : X.mg "range" = none) (ha : PA X [a] ta) (hs : starEach [a] X.env = [(false, eval a X.env)] := by rfl) :
    PRgN X (.Call (.Name "range" p) [a] [] pos) fun σ H Q => ta σ H fun vs H1 => ∃ j : Int, vs = [.int j] ∧ (-(2 ^ 62) ≤ j ∧ j < 2 ^ 62) ∧ j.toNat ≤ 2 ^ 24 ∧ Q 0 1 j.toNat H1 := by
  intro pins s σ H Q I h
  refine Call_ (ld_blt I hg hm boot_range (PyProof.Rows.callWith_type1 (thn (ha.run pos pins s σ H _ I h) fun us s1 ⟨vs, H1, I1, r1, q1⟩ => ?_) hs rfl))
  obtain ⟨j, rfl, hb, hn, q⟩ := q1
  obtain ⟨u, rfl, t, rfl⟩ := vals1 r1
  refine call_range_1 ⟨_, 0, j, 1, _, _, _, H1, j.toNat, rfl, IsRange.new _ _ _ _ _ _ _, I1.kept fun b u e => Heap.get?_push_of_some _ e, small_one (by omega) (by omega) hb.1 hb.2, ?_, hn, q⟩
  have := rangeSize_nat 0 j
  rw [this]
  omega
theorem prgN_2 (hg : Gl X "range") (hm : X.mg "range" = none) (ha : PA X [a, b] ta) (hs : starEach [a, b] X.env = (false, eval a X.env) :: starEach [b] X.env := by rfl) (hpl : (backTo pos (starEach [b] X.env)).any (·.1) = false := by rfl) :
    PRgN X (.Call (.Name "range" p) [a, b] [] pos) fun σ H Q => ta σ H fun vs H1 => ∃ i j : Int, vs = [.int i, .int j] ∧ (-(2 ^ 62) ≤ i ∧ i < 2 ^ 62 ∧ -(2 ^ 62) ≤ j ∧ j < 2 ^ 62) ∧ (j - i).toNat ≤ 2 ^ 24 ∧ Q i 1 (j - i).toNat H1 := by
  intro pins s σ H Q I h
  refine Call_ (ld_blt I hg hm boot_range (PyProof.Rows.callWith_type1 (thn (ha.run pos pins s σ H _ I h) fun us s1 ⟨vs, H1, I1, r1, q1⟩ => ?_) hs hpl))
  obtain ⟨i, j, rfl, hb, hn, q⟩ := q1
  obtain ⟨u, v, rfl, ⟨t, rfl⟩, ⟨t', rfl⟩⟩ := Vals.two r1
  exact call_range_2 ⟨_, i, j, 1, _, _, _, H1, _, rfl, IsRange.new _ _ _ _ _ _ _, I1.kept fun b u e => Heap.get?_push_of_some _ e, small_one hb.1 hb.2.1 hb.2.2.1 hb.2.2.2, rangeSize_nat i j, hn, q⟩
theorem prgN_3 (hg : Gl X "range") (hm : X.mg "range" = none) (ha : PA X [a, b, c] ta) (hs : starEach [a, b, c] X.env = (false, eval a X.env) :: starEach [b, c] X.env := by rfl) (hpl : (backTo pos (starEach [b, c] X.env)).any (·.1) = false := by rfl) :
    PRgN X (.Call (.Name "range" p) [a, b, c] [] pos) fun σ H Q => ta σ H fun vs H1 => ∃ (i j k : Int) (n : Nat), vs = [.int i, .int j, .int k] ∧ (k ≠ 0 ∧ k.natAbs < 1073741824 ∧ Builtin.Range.small i j k = true ∧ Builtin.Range.rangeSize i j k = (n : Int)) ∧ n ≤ 2 ^ 24 ∧ Q i k n H1 := by
  intro pins s σ H Q I h
  refine Call_ (ld_blt I hg hm boot_range (PyProof.Rows.callWith_type1 (thn (ha.run pos pins s σ H _ I h) fun us s1 ⟨vs, H1, I1, r1, q1⟩ => ?_) hs hpl))
  obtain ⟨i, j, k, n, rfl, ⟨c0, c1, c2, c3⟩, hn, q⟩ := q1
  cases r1 with
  | cons r rr =>
    obtain ⟨v, w', rfl, ⟨t', rfl⟩, ⟨t'', rfl⟩⟩ := Vals.two rr
    obtain ⟨t, rfl⟩ := r
    exact call_range_3 c0 ⟨_, i, j, k, _, _, _, H1, n, rfl, IsRange.new _ _ _ _ _ _ _, I1.kept fun b u e => Heap.get?_push_of_some _ e, c2, c3, hn, q⟩ (Or.inl (PyProof.noPylong_small (by omega)))
def rgC (a c : Int) (n : Nat) : List V := (List.range n).map fun i => V.int (a + (i : Nat) * c)
theorem rgC_len (a c : Int) (n : Nat) : (rgC a c n).length = n := by unfold rgC; rw [List.length_map, List.length_range]
theorem vals_rgC {a c : Int} {n : Nat} {acc : Array Value} (h : ItemsOf (fun i v => ∃ t, v = .int (a + i * c) t) acc n) : Vals (rgC a c n) acc.toList := by
  have e : acc.toList.length = n := by rw [Array.length_toList]; exact h.1
  unfold rgC
  rw [← e]
  refine vals_of_get acc.toList _ fun j u hj => ?_
  obtain ⟨t, rfl⟩ := h.2 j u (by rw [← hj, Array.getElem?_toList])
  exact ⟨t, rfl⟩
variable {te : TR}
theorem pe_listRgN (hc : X.calm = true) (hg : Gl X "list") (hm : X.mg "list" = none) (he : PRgN X e te) (na : starEach [e] X.env = (false, eval e X.env) :: starEach [] X.env := by rfl) :
    PE X (.Call (.Name "list" p) [e] [] pos) fun σ H Q => te σ H fun a c n H1 => ∀ q, H1 q = none → Q (.ref q) (upd H1 q (.lst (rgC a c n))) := by
  refine ⟨fun pins s σ H Q I h => Call_ (ld_blt I hg hm boot_list (PyProof.Rows.callWith_type1 (args_cons (thn (he pins s σ H _ I h) fun x s1 ⟨r, i, j, c, t, u, v, H1, n, ex, hr, I1, b1, b2, b3, q⟩ => args_nil ?_) na) na))⟩
  subst ex
  refine call_list_range (n := n) (I1.ok.hd hc) hr b1 b2 b3 fun h' tk acc c' hk e' hi => ?_
  refine ⟨.ref s1.heap.objs.size, _, I1.laid (o := .lst (rgC i c n)) hk (Nat.le_refl _) ⟨?_, acc.toList, c', vals_rgC hi, ?_⟩, rfl, q _ (I1.hok.fresh (Nat.le_refl _))⟩
  · rw [rgC_len, sizeLine_eq]; omega
  · rw [Array.toArray_toList]; exact e'
theorem pe_tupRgN (hc : X.calm = true) (hg : Gl X "tuple") (hm : X.mg "tuple" = none) (he : PRgN X e te) (na : starEach [e] X.env = (false, eval e X.env) :: starEach [] X.env := by rfl) :
    PE X (.Call (.Name "tuple" p) [e] [] pos) fun σ H Q => te σ H fun a c n H1 => EVN.NewT H1 Q (rgC a c n) := by
  refine ⟨fun pins s σ H Q I h => Call_ (ld_blt I hg hm boot_tuple (PyProof.Rows.callWith_type1 (args_cons (thn (he pins s σ H _ I h) fun x s1 ⟨r, i, j, c, t, u, v, H1, n, ex, hr, I1, b1, b2, b3, q⟩ => args_nil ?_) na) na))⟩
  subst ex
  refine call_tuple_range (n := n) (I1.ok.hd hc) hr b1 b2 b3 fun h' tk acc hk hi => ?_
  have I2 : Inv X pins σ H1 { s1 with heap := h', toks := tk } := I1.kept hk
  have := EVN.land I2 (by rw [rgC_len, sizeLine_eq]; omega) (vals_rgC hi) q
  exact this
end
end EVX

namespace EV
open PySem PySem.Spec L2 SX
open PyProof.Rows hiding St
section
variable {X : Cx} {S : ES} {W : WX} {pos p p2 q apos : Pos} {o e a b c : Expr} {fo fe fa : SE} {fs : Env → Res (List DV × Env)}
/-! ### t.count(k) -/
def isTp : D → Option Unit
  | .tup _ => some ()
  | _ => none
def dCnt : D → D → Option D
  | .tup xs, .int k => (dInts xs).map fun ns => .int (ns.count k : Nat)
  | _, _ => none
def eCnt (f g : SE) : SE := fun ρ => f ρ >>= fun r1 => deref r1.2 r1.1 >>= fun d1 => ofOpt (isTp d1) >>= fun _ => g r1.2 >>= fun r2 => deref r2.2 r2.1 >>= fun d2 => ofOpt (dCnt d1 d2) >>= fun d => .ok (.val d, r2.2)
theorem ShT.ty {K : PySem.W.Frag} {O : Addr → Prop} {H : Hp} {a : Addr} {vs : List V} (h : ShT K O H a vs) : EVX.tyT K (.ref a) H := by
  rcases h with ⟨_, _, o, hd, ho⟩ | ⟨⟨o, its, n, h1, h2, _⟩, o', h3, hd⟩
  · exact ⟨a, rfl, .inl ⟨o, vs, hd, ho⟩⟩
  · rw [h1] at h3
    cases h3
    exact ⟨a, rfl, .inr ⟨o, h1, h2, hd⟩⟩
theorem ev_count (ho : EvE X S W o fo) (he : EvE X S W e fe) (hs : starEach [e] X.env = (false, eval e X.env) :: starEach [] X.env := by rfl)
    (hbase : attributeBase o "count" X.env (eval o X.env) = eval o X.env := by rfl)
    (hfew : ((backTo pos (starEach [e] X.env)).all (fun x => !x.1) && (backToKw pos (keywordEach [] X.env)).all (fun x => x.1.isSome) && decide ([e].length + ([] : List Keyword).length + (if ([] : List Keyword).isEmpty then 0 else 1) < 30)) = true := by rfl)
    (hline : (apos.endLine == pos.line) = true := by rfl) (hplain : (backTo pos (starEach [] X.env)).any (·.1) = false := by rfl) :
    EvE X S W (.Call (.Attribute o "count" apos) [e] [] pos) (eCnt fo fe) := by
  obtain ⟨ta, pa, qa⟩ := ho
  obtain ⟨tb, pb, qb⟩ := he
  refine ⟨_, EVX.pe_count pa (pa_cons pb pa_nil hs) hbase hfew hline hs hplain, fun C σ H ρ Q E w => ?_⟩
  refine qa C σ H ρ _ E ((Wp.bind w).mono (fun _ _ h => h) fun r1 _ w1 v1 H1 E1 A1 R1 => ?_)
  obtain ⟨d1, e1, w2⟩ := deref_wp w1
  obtain ⟨u, e2, w3⟩ := opt_wp w2
  cases d1 with
  | tup xs =>
    obtain ⟨p1, vs1, rfl, s1, r1'⟩ := (R1.rt E1 e1).tup
    refine ⟨s1.ty, ?_⟩
    refine qb C σ H1 r1.2 _ E1 ((Wp.bind w3).mono (fun _ _ h => h) fun r2 _ w4 v2 H2 E2 A2 R2 => ?_)
    obtain ⟨d2, e3, w5⟩ := deref_wp w4
    obtain ⟨d, e4, w6⟩ := opt_wp w5
    cases d2 with
    | int k =>
      obtain ⟨ns, e5, rfl⟩ := map_some' (show (dInts xs).map (fun ns => D.int (ns.count k : Nat)) = some d from e4)
      obtain rfl := ints_eq e5
      obtain rfl := r1'.ints
      have hv : v2 = .int k := (R2.rt E2 e3).int
      subst hv
      exact ⟨p1, ns, k, rfl, rfl, (s1.adv A2.ra).sq, w6 _ H2 E2 (A1.trans A2) (Rep.int _)⟩
    | _ => cases e4
  | _ => cases e2
/-! ### sorted ints -/
def insI (x : Int) : List Int → List Int
  | [] => [x]
  | y :: r => bif decide (y < x) then y :: insI x r else x :: y :: r
def sortI : List Int → List Int
  | [] => []
  | x :: r => insI x (sortI r)
theorem insI_perm (x : Int) : ∀ l, (insI x l).Perm (x :: l)
  | [] => .refl _
  | y :: r => by
    show (bif decide (y < x) then y :: insI x r else x :: y :: r).Perm _
    cases decide (y < x) with
    | false => exact .refl _
    | true => exact ((insI_perm x r).cons y).trans (List.Perm.swap x y r)
theorem sortI_perm : ∀ l, (sortI l).Perm l
  | [] => .refl _
  | x :: r => (insI_perm x _).trans ((sortI_perm r).cons x)
theorem insI_pw (x : Int) : ∀ {l : List Int}, l.Pairwise (· ≤ ·) → (insI x l).Pairwise (· ≤ ·)
  | [], _ => List.pairwise_singleton _ _
  | y :: r, h => by
    obtain ⟨h1, h2⟩ := List.pairwise_cons.mp h
    show (bif decide (y < x) then y :: insI x r else x :: y :: r).Pairwise (· ≤ ·)
    cases q : decide (y < x) with
    | false =>
      have xy := of_decide_eq_false q
      refine List.pairwise_cons.mpr ⟨fun z hz => ?_, h⟩
      rcases List.mem_cons.mp hz with rfl | hz
      · omega
      · have := h1 z hz; omega
    | true =>
      have yx := of_decide_eq_true q
      refine List.pairwise_cons.mpr ⟨fun z hz => ?_, insI_pw x h2⟩
      rcases List.mem_cons.mp ((insI_perm x r).mem_iff.mp hz) with rfl | hz
      · omega
      · exact h1 z hz
theorem sortI_pw : ∀ l, (sortI l).Pairwise (· ≤ ·)
  | [] => .nil
  | x :: r => insI_pw x (sortI_pw r)
theorem sortI_unique {l m : List Int} (hp : m.Perm l) (hs : m.Pairwise (· ≤ ·)) : m = sortI l :=
  List.Perm.eq_of_pairwise (le := (· ≤ ·)) (fun a b _ _ h1 h2 => Int.le_antisymm h1 h2) hs (sortI_pw l) (hp.trans (sortI_perm l).symm)
def bSortI : List D → Option D
  | [.lst xs] => (dInts xs).map fun ns => .lst ((sortI ns).map D.int)
  | _ => none
theorem cf_sortI : CalF' X (.builtin "sorted") bSortI := by
  refine ⟨_, cr_sortedI, fun T O H vs ds d Q oh rt e w => ?_⟩
  unfold bSortI at e
  split at e
  · obtain ⟨ns, e1, rfl⟩ := map_some' e
    obtain rfl := ints_eq e1
    obtain ⟨v, rfl, h⟩ := rt.one
    obtain ⟨a, vs, rfl, h1, h2⟩ := h.lst
    obtain rfl := h2.ints
    refine ⟨a, ns, rfl, .inl h1, fun ys p hp hs h0 => ?_⟩
    obtain rfl := sortI_unique hp hs
    exact w p _ h0 ⟨_, rfl, Reps.ofInts _⟩
  · cases e
theorem CalF'.or {f : Value} {g g' : List D → Option D} (h : CalF' X f g) (h' : CalF' X f g') : CalF' X f (fun ds => (g ds).or (g' ds)) := by
  obtain ⟨r, c, q⟩ := h
  obtain ⟨r', c', q'⟩ := h'
  refine ⟨_, CallR.or c c', fun T O H vs ds d Q oh rt e w => ?_⟩
  cases z : g ds with
  | some d' =>
    have e' : (g ds).or (g' ds) = some d := e
    rw [z] at e'
    cases e'
    exact .inl (q T O H vs ds d Q oh rt z w)
  | none =>
    have e' : (g ds).or (g' ds) = some d := e
    rw [z] at e'
    exact .inr (q' T O H vs ds d Q oh rt e' w)
def bSortA (ds : List D) : Option D := (bSort ds).or (bSortI ds)
theorem cf_sortA : CalF' X (.builtin "sorted") bSortA := cf_sort.or cf_sortI
/-! ### sorted(set(t)) of ints -/
def ddI : List Int → List Int
  | [] => []
  | x :: r => if x ∈ r then ddI r else x :: ddI r
theorem ddI_mem : ∀ {l : List Int} {x : Int}, x ∈ ddI l ↔ x ∈ l
  | [], _ => Iff.rfl
  | y :: r, x => by
    unfold ddI
    split
    · rename_i h
      rw [ddI_mem, List.mem_cons]
      exact ⟨.inr, fun z => z.elim (fun e => e ▸ h) id⟩
    · rw [List.mem_cons, List.mem_cons, ddI_mem]
theorem ddI_nodup : ∀ l : List Int, (ddI l).Nodup
  | [] => List.nodup_nil
  | y :: r => by
    unfold ddI
    split
    · exact ddI_nodup r
    · rename_i h
      exact List.nodup_cons.mpr ⟨fun z => h (ddI_mem.mp z), ddI_nodup r⟩
def setI (l : List Int) : List Int := sortI (ddI l)
theorem setI_unique {l m : List Int} (hs : m.Pairwise (· < ·)) (h : ∀ k, k ∈ m ↔ k ∈ l) : m = setI l := by
  refine sortI_unique ?_ (hs.imp fun h => Int.le_of_lt h)
  refine (List.perm_ext_iff_of_nodup (hs.imp fun h => Int.ne_of_lt h) (ddI_nodup l)).mpr fun k => ?_
  rw [h, ddI_mem]
def bSortSI : D → Option D
  | .tup xs => (dInts xs).bind fun ns => if ns.length < 63 then some (.lst ((setI ns).map D.int)) else none
  | _ => none
theorem ef_sortSI (hc : X.calm = true) (hg : Gl X "sorted") (hm : X.mg "sorted" = none) (hg2 : Gl X "set") (hm2 : X.mg "set" = none) (ha : EvE X S W a fa) (na : starEach [a] X.env = (false, eval a X.env) :: starEach [] X.env := by rfl) :
    EvF X S W (.Call (.Name "sorted" p) [.Call (.Name "set" p2) [a] [] q] [] pos) (fUn bSortSI fa) := by
  obtain ⟨ta, pa, qa⟩ := ha
  refine ⟨_, EVX.pe_sortSetI hc hg hm hg2 hm2 pa na, fun C σ H ρ Q E w => ?_⟩
  refine qa C σ H ρ _ E ((Wp.bind w).mono (fun _ _ h => h) fun r1 _ w1 v1 H1 E1 A1 R1 => ?_)
  obtain ⟨d1, e1, w3⟩ := deref_wp w1
  obtain ⟨d, e, w5⟩ := opt_wp w3
  have rt := R1.rt E1 e1
  unfold bSortSI at e
  split at e
  · rename_i xs
    obtain ⟨ns, e2, e3⟩ := Option.bind_eq_some_iff.mp e
    split at e3
    · rename_i hl
      cases e3
      obtain rfl := ints_eq e2
      obtain ⟨b, vs, rfl, h1, h2⟩ := rt.tup
      obtain rfl := h2.ints
      refine ⟨b, ns, rfl, h1.sq, hl, fun ys p hs hm0 hp => ?_⟩
      obtain rfl := setI_unique hs hm0
      have na : NewAt X.K S.T (C.O S σ r1.2) H1 (.lst ((setI ns).map V.int)) (.lst ((setI ns).map D.int)) := ⟨_, rfl, Reps.ofInts _⟩
      have x : Ex H1 (upd H1 p (.lst ((setI ns).map V.int))) := Ex.new hp
      exact w5 p _ (A1.back hp) (OH.fresh E1.omut hp) (E1.alloc hp na.mut) (A1.trans x.adv) (na.own (ra_plus hp x))
    · cases e3
  · cases e
/-! ### list(range(..)), tuple(range(..)) -/
def fLstR (k : List D → Option (List D)) (fs : Env → Res (List DV × Env)) : Env → Res (D × Env) := fun ρ => fs ρ >>= fun r => ofOpt (vals r.1) >>= fun ds => ofOpt (k ds) >>= fun xs => ofOpt (lim xs.length) >>= fun _ => .ok (.lst xs, r.2)
def eTupR (k : List D → Option (List D)) (fs : Env → Res (List DV × Env)) : SE := fun ρ => fs ρ >>= fun r => ofOpt (vals r.1) >>= fun ds => ofOpt (k ds) >>= fun xs => ofOpt (lim xs.length) >>= fun _ => .ok (.val (.tup xs), r.2)
theorem Reps.rgC {K : PySem.W.Frag} {T : Nat → Option Addr} {O : Addr → Prop} {H : Hp} (i c : Int) (n : Nat) : Reps K T O H (EVX.rgC i c n) (rng i c n) := by
  unfold EVX.rgC rng
  induction List.range n with
  | nil => exact .nil
  | cons x l ih => exact .cons (.int _) ih
theorem lim_le {n : Nat} {u : Unit} (h : lim n = some u) : n ≤ 2 ^ 24 := by
  have := lim_ok h
  rw [sizeLine_eq] at this
  exact this
theorem ef_lstR1 (hc : X.calm = true) (hg : Gl X "range") (hm : X.mg "range" = none) (hg2 : Gl X "list") (hm2 : X.mg "list" = none) (ha : EvA X S W [a] fs) (hs : starEach [a] X.env = [(false, eval a X.env)] := by rfl)
    (na : starEach [.Call (.Name "range" p2) [a] [] q] X.env = (false, eval (.Call (.Name "range" p2) [a] [] q) X.env) :: starEach [] X.env := by rfl) :
    EvF X S W (.Call (.Name "list" p) [.Call (.Name "range" p2) [a] [] q] [] pos) (fLstR rng1 fs) := by
  obtain ⟨t, pa, qt⟩ := ha
  refine ⟨_, EVX.pe_listRgN hc hg2 hm2 (EVX.prgN_1 hg hm pa hs) na, fun C σ H ρ Q E w => ?_⟩
  refine qt C σ H ρ _ E ((Wp.bind w).mono (fun _ _ h => h) fun r1 _ w1 vs H1 E1 A1 R1 => ?_)
  obtain ⟨ds, e1, w2⟩ := opt_wp w1
  obtain ⟨xs, e2, w3⟩ := opt_wp w2
  obtain ⟨u, e3, w4⟩ := opt_wp w3
  obtain ⟨j, rfl, b1, b2, rfl⟩ := rng1_of e2
  have hl := lim_le e3
  rw [rng_length] at hl
  refine ⟨j, (R1.reps e1).ints1, ⟨b1, b2⟩, hl, fun p hp => ?_⟩
  have na : NewAt X.K S.T (C.O S σ r1.2) H1 (.lst (EVX.rgC 0 1 j.toNat)) (.lst (rng 0 1 j.toNat)) := ⟨_, rfl, Reps.rgC _ _ _⟩
  have x := Ex.new (o := .lst (EVX.rgC 0 1 j.toNat)) hp
  exact w4 p _ (A1.back hp) (OH.fresh E1.omut hp) (E1.alloc hp na.mut) (A1.trans x.adv) (na.own (ra_plus hp x))
theorem ev_tupR1 (hc : X.calm = true) (hg : Gl X "range") (hm : X.mg "range" = none) (hg2 : Gl X "tuple") (hm2 : X.mg "tuple" = none) (ha : EvA X S W [a] fs) (hs : starEach [a] X.env = [(false, eval a X.env)] := by rfl)
    (na : starEach [.Call (.Name "range" p2) [a] [] q] X.env = (false, eval (.Call (.Name "range" p2) [a] [] q) X.env) :: starEach [] X.env := by rfl) :
    EvE X S W (.Call (.Name "tuple" p) [.Call (.Name "range" p2) [a] [] q] [] pos) (eTupR rng1 fs) := by
  obtain ⟨t, pa, qt⟩ := ha
  refine ⟨_, EVX.pe_tupRgN hc hg2 hm2 (EVX.prgN_1 hg hm pa hs) na, fun C σ H ρ Q E w => ?_⟩
  refine qt C σ H ρ _ E ((Wp.bind w).mono (fun _ _ h => h) fun r1 _ w1 vs H1 E1 A1 R1 => ?_)
  obtain ⟨ds, e1, w2⟩ := opt_wp w1
  obtain ⟨xs, e2, w3⟩ := opt_wp w2
  obtain ⟨u, e3, w4⟩ := opt_wp w3
  obtain ⟨j, rfl, b1, b2, rfl⟩ := rng1_of e2
  have hl := lim_le e3
  rw [rng_length] at hl
  refine ⟨j, (R1.reps e1).ints1, ⟨b1, b2⟩, hl, fun p o hp hd => ?_⟩
  have x := Ex.new (o := .frz o (.tup (EVX.rgC 0 1 j.toNat))) hp
  exact w4 _ _ (E1.ext x) (A1.trans x.adv) (Rep.tup (.fresh (OH.fresh E1.omut hp) upd_same hd) (Reps.rgC _ _ _))
theorem ef_lstR2 (hc : X.calm = true) (hg : Gl X "range") (hm : X.mg "range" = none) (hg2 : Gl X "list") (hm2 : X.mg "list" = none) (ha : EvA X S W [a, b] fs) (hs : starEach [a, b] X.env = (false, eval a X.env) :: starEach [b] X.env := by rfl) (hpl : (backTo q (starEach [b] X.env)).any (·.1) = false := by rfl)
    (na : starEach [.Call (.Name "range" p2) [a, b] [] q] X.env = (false, eval (.Call (.Name "range" p2) [a, b] [] q) X.env) :: starEach [] X.env := by rfl) :
    EvF X S W (.Call (.Name "list" p) [.Call (.Name "range" p2) [a, b] [] q] [] pos) (fLstR rng2 fs) := by
  obtain ⟨t, pa, qt⟩ := ha
  refine ⟨_, EVX.pe_listRgN hc hg2 hm2 (EVX.prgN_2 hg hm pa hs hpl) na, fun C σ H ρ Q E w => ?_⟩
  refine qt C σ H ρ _ E ((Wp.bind w).mono (fun _ _ h => h) fun r1 _ w1 vs H1 E1 A1 R1 => ?_)
  obtain ⟨ds, e1, w2⟩ := opt_wp w1
  obtain ⟨xs, e2, w3⟩ := opt_wp w2
  obtain ⟨u, e3, w4⟩ := opt_wp w3
  obtain ⟨i, j, rfl, hb, rfl⟩ := rng2_of e2
  have hl := lim_le e3
  rw [rng_length] at hl
  refine ⟨i, j, (R1.reps e1).ints2, hb, hl, fun p hp => ?_⟩
  have na : NewAt X.K S.T (C.O S σ r1.2) H1 (.lst (EVX.rgC i 1 (j - i).toNat)) (.lst (rng i 1 (j - i).toNat)) := ⟨_, rfl, Reps.rgC _ _ _⟩
  have x := Ex.new (o := .lst (EVX.rgC i 1 (j - i).toNat)) hp
  exact w4 p _ (A1.back hp) (OH.fresh E1.omut hp) (E1.alloc hp na.mut) (A1.trans x.adv) (na.own (ra_plus hp x))
theorem ev_tupR2 (hc : X.calm = true) (hg : Gl X "range") (hm : X.mg "range" = none) (hg2 : Gl X "tuple") (hm2 : X.mg "tuple" = none) (ha : EvA X S W [a, b] fs) (hs : starEach [a, b] X.env = (false, eval a X.env) :: starEach [b] X.env := by rfl) (hpl : (backTo q (starEach [b] X.env)).any (·.1) = false := by rfl)
    (na : starEach [.Call (.Name "range" p2) [a, b] [] q] X.env = (false, eval (.Call (.Name "range" p2) [a, b] [] q) X.env) :: starEach [] X.env := by rfl) :
    EvE X S W (.Call (.Name "tuple" p) [.Call (.Name "range" p2) [a, b] [] q] [] pos) (eTupR rng2 fs) := by
  obtain ⟨t, pa, qt⟩ := ha
  refine ⟨_, EVX.pe_tupRgN hc hg2 hm2 (EVX.prgN_2 hg hm pa hs hpl) na, fun C σ H ρ Q E w => ?_⟩
  refine qt C σ H ρ _ E ((Wp.bind w).mono (fun _ _ h => h) fun r1 _ w1 vs H1 E1 A1 R1 => ?_)
  obtain ⟨ds, e1, w2⟩ := opt_wp w1
  obtain ⟨xs, e2, w3⟩ := opt_wp w2
  obtain ⟨u, e3, w4⟩ := opt_wp w3
  obtain ⟨i, j, rfl, hb, rfl⟩ := rng2_of e2
  have hl := lim_le e3
  rw [rng_length] at hl
  refine ⟨i, j, (R1.reps e1).ints2, hb, hl, fun p o hp hd => ?_⟩
  have x := Ex.new (o := .frz o (.tup (EVX.rgC i 1 (j - i).toNat))) hp
  exact w4 _ _ (E1.ext x) (A1.trans x.adv) (Rep.tup (.fresh (OH.fresh E1.omut hp) upd_same hd) (Reps.rgC _ _ _))
theorem ef_lstR3 (hc : X.calm = true) (hg : Gl X "range") (hm : X.mg "range" = none) (hg2 : Gl X "list") (hm2 : X.mg "list" = none) (ha : EvA X S W [a, b, c] fs) (hs : starEach [a, b, c] X.env = (false, eval a X.env) :: starEach [b, c] X.env := by rfl) (hpl : (backTo q (starEach [b, c] X.env)).any (·.1) = false := by rfl)
    (na : starEach [.Call (.Name "range" p2) [a, b, c] [] q] X.env = (false, eval (.Call (.Name "range" p2) [a, b, c] [] q) X.env) :: starEach [] X.env := by rfl) :
    EvF X S W (.Call (.Name "list" p) [.Call (.Name "range" p2) [a, b, c] [] q] [] pos) (fLstR rng3 fs) := by
  obtain ⟨t, pa, qt⟩ := ha
  refine ⟨_, EVX.pe_listRgN hc hg2 hm2 (EVX.prgN_3 hg hm pa hs hpl) na, fun C σ H ρ Q E w => ?_⟩
  refine qt C σ H ρ _ E ((Wp.bind w).mono (fun _ _ h => h) fun r1 _ w1 vs H1 E1 A1 R1 => ?_)
  obtain ⟨ds, e1, w2⟩ := opt_wp w1
  obtain ⟨xs, e2, w3⟩ := opt_wp w2
  obtain ⟨u, e3, w4⟩ := opt_wp w3
  obtain ⟨i, j, k, rfl, hb, rfl⟩ := rng3_of e2
  have hl := lim_le e3
  rw [rng_length] at hl
  refine ⟨i, j, k, _, (R1.reps e1).ints3, ⟨hb.1, hb.2.1, hb.2.2.1, (Int.toNat_of_nonneg hb.2.2.2).symm⟩, hl, fun p hp => ?_⟩
  have na : NewAt X.K S.T (C.O S σ r1.2) H1 (.lst (EVX.rgC i k (Builtin.Range.rangeSize i j k).toNat)) (.lst (rng i k (Builtin.Range.rangeSize i j k).toNat)) := ⟨_, rfl, Reps.rgC _ _ _⟩
  have x := Ex.new (o := .lst (EVX.rgC i k (Builtin.Range.rangeSize i j k).toNat)) hp
  exact w4 p _ (A1.back hp) (OH.fresh E1.omut hp) (E1.alloc hp na.mut) (A1.trans x.adv) (na.own (ra_plus hp x))
theorem ev_tupR3 (hc : X.calm = true) (hg : Gl X "range") (hm : X.mg "range" = none) (hg2 : Gl X "tuple") (hm2 : X.mg "tuple" = none) (ha : EvA X S W [a, b, c] fs) (hs : starEach [a, b, c] X.env = (false, eval a X.env) :: starEach [b, c] X.env := by rfl) (hpl : (backTo q (starEach [b, c] X.env)).any (·.1) = false := by rfl)
    (na : starEach [.Call (.Name "range" p2) [a, b, c] [] q] X.env = (false, eval (.Call (.Name "range" p2) [a, b, c] [] q) X.env) :: starEach [] X.env := by rfl) :
    EvE X S W (.Call (.Name "tuple" p) [.Call (.Name "range" p2) [a, b, c] [] q] [] pos) (eTupR rng3 fs) := by
  obtain ⟨t, pa, qt⟩ := ha
  refine ⟨_, EVX.pe_tupRgN hc hg2 hm2 (EVX.prgN_3 hg hm pa hs hpl) na, fun C σ H ρ Q E w => ?_⟩
  refine qt C σ H ρ _ E ((Wp.bind w).mono (fun _ _ h => h) fun r1 _ w1 vs H1 E1 A1 R1 => ?_)
  obtain ⟨ds, e1, w2⟩ := opt_wp w1
  obtain ⟨xs, e2, w3⟩ := opt_wp w2
  obtain ⟨u, e3, w4⟩ := opt_wp w3
  obtain ⟨i, j, k, rfl, hb, rfl⟩ := rng3_of e2
  have hl := lim_le e3
  rw [rng_length] at hl
  refine ⟨i, j, k, _, (R1.reps e1).ints3, ⟨hb.1, hb.2.1, hb.2.2.1, (Int.toNat_of_nonneg hb.2.2.2).symm⟩, hl, fun p o hp hd => ?_⟩
  have x := Ex.new (o := .frz o (.tup (EVX.rgC i k (Builtin.Range.rangeSize i j k).toNat))) hp
  exact w4 _ _ (E1.ext x) (A1.trans x.adv) (Rep.tup (.fresh (OH.fresh E1.omut hp) upd_same hd) (Reps.rgC _ _ _))
end
/-! running them -/
variable {ρ : Env} {Q : DV × Env → Prop} {t : Hid Q} {Qd : D × Env → Prop} {td : Hid Qd}
@[simp ↓] theorem wk_eCnt (f g : SE) : Wk (eCnt f g ρ) Q t = Wk (f ρ) fun r1 => Wk (deref r1.2 r1.1) fun d1 => Wk (ofOpt (isTp d1)) fun _ => Wk (g r1.2) fun r2 => Wk (deref r2.2 r2.1) fun d2 => Wk (ofOpt (dCnt d1 d2)) fun d => Q (.val d, r2.2) := by
  have e : eCnt f g ρ = (f ρ >>= fun r1 => deref r1.2 r1.1 >>= fun d1 => ofOpt (isTp d1) >>= fun _ => g r1.2 >>= fun r2 => deref r2.2 r2.1 >>= fun d2 => ofOpt (dCnt d1 d2) >>= fun d => .ok (.val d, r2.2)) := rfl
  rw [e]; repeat' (first | exact wk_ok _ _ _ | refine wk_b fun _ => ?_)
@[simp ↓] theorem wk_fLstR (k : List D → Option (List D)) (fs : Env → Res (List DV × Env)) : Wk (fLstR k fs ρ) Qd td = Wk (fs ρ) fun r => Wk (ofOpt (vals r.1)) fun ds => Wk (ofOpt (k ds)) fun xs => Wk (ofOpt (lim xs.length)) fun _ => Qd (.lst xs, r.2) := by
  have e : fLstR k fs ρ = (fs ρ >>= fun r => ofOpt (vals r.1) >>= fun ds => ofOpt (k ds) >>= fun xs => ofOpt (lim xs.length) >>= fun _ => .ok (.lst xs, r.2)) := rfl
  rw [e]; repeat' (first | exact wk_ok _ _ _ | refine wk_b fun _ => ?_)
@[simp ↓] theorem wk_eTupR (k : List D → Option (List D)) (fs : Env → Res (List DV × Env)) : Wk (eTupR k fs ρ) Q t = Wk (fs ρ) fun r => Wk (ofOpt (vals r.1)) fun ds => Wk (ofOpt (k ds)) fun xs => Wk (ofOpt (lim xs.length)) fun _ => Q (.val (.tup xs), r.2) := by
  have e : eTupR k fs ρ = (fs ρ >>= fun r => ofOpt (vals r.1) >>= fun ds => ofOpt (k ds) >>= fun xs => ofOpt (lim xs.length) >>= fun _ => .ok (.val (.tup xs), r.2)) := rfl
  rw [e]; repeat' (first | exact wk_ok _ _ _ | refine wk_b fun _ => ?_)
@[simp] theorem q_isTp (xs : List D) : isTp (.tup xs) = some () := nr rfl
end EV

namespace EV
open PySem PySem.Spec L2 SX
open PyProof.Rows hiding St
/-! ### x, y = a, b with new objects, where a name is a cell: by way of a tuple -/
theorem RQ.ex {K : PySem.W.Frag} {T : Nat → Option Addr} {O : Addr → Prop} {H H' : Hp} (x : Ex H H') : ∀ {vs : List V} {xs : List (Bool × D)} {ps : List Addr}, RQ K T O H vs xs ps → RQ K T O H' vs xs ps
  | [], [], [], h => h
  | v :: vs, (false, d) :: xs, ps, h => ⟨Rep.adv x.ra d v h.1, RQ.ex x h.2⟩
  | v :: vs, (true, d) :: xs, p :: ps, h => by
    obtain ⟨h1, h2, h3⟩ := h
    obtain ⟨u, hu, _⟩ := h2.mut
    exact ⟨h1, h2.adv x.ra ((x _ u hu).trans hu.symm), RQ.ex x h3⟩
  | [], [], _ :: _, h => h.elim
  | [], _ :: _, _, h => h.elim
  | _ :: _, [], _, h => h.elim
  | _ :: _, (true, _) :: _, [], h => h.elim
section
variable {X : Cx} {S : ES} {W : WX} {pos : Pos}
def gsSet (is : List (Nat × Bool)) : TGs := fun vs σ H Q => vs.length = is.length ∧ Q (setAll σ is vs) H
theorem pgsS_nil : PGs X [] (gsSet []) := ⟨fun pins s σ H vs us Q I r h => by
  obtain ⟨e, h⟩ := h
  have e : vs = [] := List.eq_nil_of_length_eq_zero e
  subst e
  exact pgs_nil.run pins s σ H _ _ Q I r ⟨rfl, h⟩⟩
theorem pgsS_cons {i : Nat} {b : Bool} {x : Str} {px : Pos} {es : List Expr} {is : List (Nat × Bool)} (hN : X.N.Nodup) (hi : X.N[i]? = some x) (hx : Loc X.env.scope x) (h2 : PGs X es (gsSet is))
    (hs : (assignEach (.Name x px :: es) X.env).map (·.2) = assign (.Name x px) X.env :: (assignEach es X.env).map (·.2) := by rfl) (hf : X.fn x = true ∨ X.env.scope.names.lookup x = some .local := by first | exact .inl rfl | exact .inr rfl | assumption) : PGs X (.Name x px :: es) (gsSet ((i, b) :: is)) := ⟨fun pins s σ H vs us Q I r h => by
  obtain ⟨e, h⟩ := h
  cases vs with
  | nil => cases e
  | cons v vs => exact (pgs_cons (pg_name hN hi hx hf) h2 hs).run pins s σ H _ _ Q I r ⟨v, vs, rfl, Nat.succ.inj e, h⟩⟩
theorem es_parG {tgs es : List Expr} {is : List (Nat × Bool)} {n : Nat} {kt k2 : Nat} {pt pt2 : Pos} {fq} (ok : OkT S is) (hc : X.calm = true) (hg : PGs X tgs (gsSet is)) (hl : is.length = n) (h1000 : n ≤ 1000) (ha : EvQ X S W es fq)
    (hn : (assignEach tgs X.env).length = n := by rfl) (hst : (assignEach tgs X.env).findIdx? (·.1) = none := by rfl)
    (hs : swapsWithSole [.Tuple tgs kt pt] (.Tuple es k2 pt2) pos.line X.env = pure false := by rfl) (hw : swappedStores [.Tuple tgs kt pt] (.Tuple es k2 pt2) X.env = pure none := by rfl)
    (h1 : (assignEach [.Tuple tgs kt pt] X.env).map (·.2) = [assign (.Tuple tgs kt pt) X.env] := by rfl) : EvS X S W (.Assign [.Tuple tgs kt pt] (.Tuple es k2 pt2) pos) (sPar is fq) := by
  obtain ⟨t, p, q⟩ := ha
  refine ⟨_, ps_asg (EVN.pe_tupN p) (pg_tup hc hg hn hst) hs hw h1, fun C σ H ρ D E w => ?_⟩
  refine q C σ H ρ _ E ((Wp.bind w).mono (fun _ _ h => h) fun r1 _ w1 vs ps H1 hp nd E1 A1 R1 => ?_)
  obtain ⟨ρ', e1, w2⟩ := opt_wp w1
  have hvl := R1.length.trans (stsQ_len e1)
  refine ⟨by rw [hvl, hl, sizeLine_eq]; omega, fun a o hna hd => ?_⟩
  have x : Ex H1 (upd H1 a (.frz o (.tup vs))) := Ex.new hna
  refine ⟨a, vs, rfl, .inl (.inr ⟨o, upd_same⟩), hvl.trans hl, hvl, ?_⟩
  obtain ⟨E2, A2⟩ := stores ok (E1.ext x) (R1.ex x) (fun p m => ⟨E.h0 (hp p m).1, (hp p m).2⟩) nd e1
  have A1 := A1.trans (x.adv (m := C.mo S σ r1.2))
  exact w2 _ _ E2 (A2 _ H ⟨A1.st, A1.mn, fun a z => (O_pl.mp z).elim (A1.on a) fun m => .inr (hp a m).1, A1.dm⟩ fun p m => (hp p m).1)
end
end EV

namespace EV
open PySem PySem.Spec L2 SX
open PyProof.Rows hiding St
/-! ### while loops, run -/
theorem wk_while {tt : Env → Res (Bool × Env)} {B : SS} {Q : Fl × Env → Prop} {t : Hid Q} (I : Nat → Env → Prop)
    (step : ∀ m ρ, I m ρ → Wk (tt ρ) fun r => bif r.1 then Wk (B r.2) fun r2 => match r2.1 with | .nx => Hold (∃ m', m' < m ∧ I m' r2.2) | .cont => Hold (∃ m', m' < m ∧ I m' r2.2) | .brk => Q (.nx, r2.2) | .ret v => Q (.ret v, r2.2) else Q (.nx, r.2)) :
    ∀ (N m : Nat) (ρ : Env), I m ρ → m < N → Wk (whileL tt B N ρ) Q t
  | 0, m, ρ, _, h => absurd h (Nat.not_lt_zero _)
  | N + 1, m, ρ, i, h => by
    obtain ⟨⟨b, ρ1⟩, h1, h2⟩ := step m ρ i
    have e0 : whileL tt B (N + 1) ρ = (tt ρ >>= fun r => bif r.1 then B r.2 >>= fun r2 => match r2.1 with
      | .nx => whileL tt B N r2.2
      | .cont => whileL tt B N r2.2
      | .brk => .ok (.nx, r2.2)
      | .ret d => .ok (.ret d, r2.2) else .ok (.nx, r.2)) := rfl
    cases b with
    | false =>
      refine ⟨_, ?_, h2⟩
      rw [e0, h1]
      rfl
    | true =>
      have h2 : Wk (B ρ1) fun r2 => match r2.1 with | .nx => Hold (∃ m', m' < m ∧ I m' r2.2) | .cont => Hold (∃ m', m' < m ∧ I m' r2.2) | .brk => Q (.nx, r2.2) | .ret v => Q (.ret v, r2.2) := h2
      obtain ⟨⟨fl, ρ2⟩, h3, h4⟩ := h2
      have e1 : whileL tt B (N + 1) ρ = (B ρ1 >>= fun r2 => match r2.1 with
        | .nx => whileL tt B N r2.2
        | .cont => whileL tt B N r2.2
        | .brk => .ok (.nx, r2.2)
        | .ret d => .ok (.ret d, r2.2)) := by
        rw [e0, h1]
        rfl
      rw [e1]
      cases fl with
      | nx =>
        obtain ⟨m', hm, i'⟩ := (show ∃ m', m' < m ∧ I m' ρ2 from h4)
        have := wk_while (t := t) I step N m' ρ2 i' (by omega)
        rw [h3]
        exact this
      | cont =>
        obtain ⟨m', hm, i'⟩ := (show ∃ m', m' < m ∧ I m' ρ2 from h4)
        have := wk_while (t := t) I step N m' ρ2 i' (by omega)
        rw [h3]
        exact this
      | brk =>
        rw [h3]
        exact ⟨_, rfl, h4⟩
      | ret d =>
        rw [h3]
        exact ⟨_, rfl, h4⟩
end EV

namespace EV
open PySem PySem.Spec L2 SX
open PyProof.Rows hiding St
/-! ### a new list of flat data, made while what is owned is only read: what is owned is read as if it were shared, what is lent is not read -/
def hideE : List Nat → Env → Env
  | [], ρ => ρ
  | i :: is, ρ => hideE is (st ρ i none)
theorem hideE_len : ∀ (is : List Nat) (ρ : Env), (hideE is ρ).length = ρ.length
  | [], _ => rfl
  | i :: is, ρ => (hideE_len is _).trans (st_length ρ i none)
theorem hideE_get : ∀ {is : List Nat} {ρ : Env} {j : Nat} {d : D}, gt (hideE is ρ) j = some d → j ∉ is ∧ gt ρ j = some d
  | [], _, _, _, h => ⟨(fun z => nomatch z), h⟩
  | i :: is, ρ, j, d, h => by
    obtain ⟨h1, h2⟩ := hideE_get (is := is) h
    by_cases e : j = i
    · subst e
      rw [gt_st_none] at h2
      cases h2
    · rw [gt_st_ne ρ i j _ e] at h2
      exact ⟨fun z => (List.mem_cons.mp z).elim e h1, h2⟩
section
variable {K : PySem.W.Frag} {S : ES} {C : EC} {σ : St} {H H' : Hp} {ρ : Env}
abbrev ES.bare (S : ES) : ES := { S with ow := [] }
theorem O_bare {ρ' : Env} {a : Addr} : C.O S.bare σ ρ' a ↔ C.O0 a := ⟨fun h => h.elim id fun ⟨i, h, _⟩ => (nomatch h), .inl⟩
theorem ER.hide (E : ER K S C σ H ρ) : ER K S.bare C σ H (hideE S.fx ρ) := by
  have ra : RA (C.O S σ ρ) H (C.O S.bare σ (hideE S.fx ρ)) H := ⟨fun _ _ _ h => h, fun a h => .inl (.inl (O_bare.mp h)), fun _ h => h⟩
  refine ⟨(hideE_len _ _).trans E.len, fun i d _ hd => ?_, fun i d hi => (nomatch hi), fun i j a hi => (nomatch hi), E.fx, E.fr, E.dom, E.lks, E.o0⟩
  obtain ⟨hf, hd⟩ := hideE_get hd
  by_cases hi : i ∈ S.ow
  · obtain ⟨a, h1, h2, h3, _⟩ := E.own i d hi hd
    have n := (h3 hf).2
    exact ⟨.ref a, h1, (h2.adv ra rfl).rep fun z => n (O_bare.mp z)⟩
  · obtain ⟨v, h1, h2⟩ := E.sh i d hi hd
    exact ⟨v, h1, h2.adv ra⟩
theorem ER.alloc' {p : Addr} {u : HO} (E : ER K S C σ H ρ) (x : Ex H H') (hp : H p = none) (hu : H' p = some u) (mu : Mut (some u)) : ER K S (C.pl [p]) σ H' ρ := by
  have av : RA (C.O S σ ρ) H ((C.pl [p]).O S σ ρ) H' := ⟨fun a w _ h => x.rd h, fun a h => (O_plus.mp h).imp id fun (e : a = p) => by rw [e]; exact hp, x.dm⟩
  refine ⟨E.len, fun i d hi hd => let ⟨v, h1, h2⟩ := E.sh i d hi hd; ⟨v, h1, h2.adv av⟩, fun i d hi hd => ?_, E.dis, E.fx, fun a w h => (E.fr a w h).imp id fun h => h.imp (x a w) id, fun a h => x.dm a (E.dom a h), fun a o w h => ⟨x a _ (E.lks a o w h).1, (E.lks a o w h).2⟩, fun a h => ?_⟩
  · obtain ⟨a, h1, h2, h3, h4⟩ := E.own i d hi hd
    obtain ⟨w, hw, _⟩ := h2.mut
    have nap : a ≠ p := fun e => by rw [e, hp] at hw; cases hw
    exact ⟨a, h1, h2.adv av ((x a w hw).trans hw.symm), fun q => ⟨(h3 q).1, fun z => z.elim (h3 q).2 fun e => nap (by simpa using e)⟩, h4.imp id fun q => ⟨q.1, fun z => z.elim q.2 fun e => nap (by simpa using e)⟩⟩
  · rcases h with h | h
    · obtain ⟨w, h1, h2⟩ := E.o0 a h
      exact ⟨w, x.rd h1, h2⟩
    · obtain rfl : a = p := by simpa using h
      exact ⟨u, .inl hu, mu⟩
end
def fPure (fx : List Nat) (f : Env → Res (D × Env)) : Env → Res (D × Env) := fun ρ => noErr (f (hideE fx ρ)) >>= fun r => gd r.1.flatC >>= fun _ => .ok (r.1, ρ)
theorem ef_pure {X : Cx} {S : ES} {W : WX} {e : Expr} {f : Env → Res (D × Env)} {fx : List Nat} (hfx : S.fx = fx) (h : EvF X S.bare W e f) : EvF X S W e (fPure fx f) := by
  subst hfx
  obtain ⟨t, p, q⟩ := h
  refine ⟨t, p, fun C σ H ρ Q E w => ?_⟩
  refine q C σ H (hideE S.fx ρ) Q E.hide ((noErr_wp w).mono (fun _ _ h => h) fun r _ w1 p H' hp hO E' A' how => ?_)
  obtain ⟨hfl, w2⟩ := gd_wp w1
  have x : Ex H H' := fun a u hu => A'.st a u (fun ⟨i, hi, _⟩ => nomatch hi) hu
  obtain ⟨u, hu, mu⟩ := how.mut
  have E1 := E.alloc' x hp hu mu
  exact w2 p H' hp (OH.fresh E.omut hp) E1 x.adv (how.flat E1.omut hfl)
variable {ρ : Env} {Qd : D × Env → Prop} {td : Hid Qd}
@[simp ↓] theorem wk_fPure (fx : List Nat) (f : Env → Res (D × Env)) : Wk (fPure fx f ρ) Qd td = Wk (f (hideE fx ρ)) fun r => Wk (gd r.1.flatC) fun _ => Qd (r.1, ρ) := by
  have e : fPure fx f ρ = (noErr (f (hideE fx ρ)) >>= fun r => gd r.1.flatC >>= fun _ => .ok (r.1, ρ)) := rfl
  rw [e, wk_bind, wk_noErr]
  refine wk_b0 fun r => ?_
  rw [wk_bind]
  exact wk_b0 fun _ => wk_ok _ _ _
@[simp] theorem q_hide0 : hideE [] ρ = ρ := nr rfl
@[simp] theorem q_hideS (i : Nat) (is : List Nat) : hideE (i :: is) ρ = hideE is (st ρ i none) := nr rfl
theorem flatL_ints (ns : List Int) : flatL (ns.map D.int) = true := by
  induction ns with
  | nil => rfl
  | cons n ns ih => exact ih
theorem flatL_strs (ns : List (List Nat)) : flatL (ns.map D.str) = true := by
  induction ns with
  | nil => rfl
  | cons n ns ih => exact ih
theorem flatC_ints (ns : List Int) : (D.lst (ns.map D.int)).flatC = true := flatL_ints ns
theorem flatC_strs (ns : List (List Nat)) : (D.lst (ns.map D.str)).flatC = true := flatL_strs ns
end EV

namespace LK78
open PySem PySem.Spec L2 SX EV
open PyProof.Rows hiding St
abbrev Env := EV.Env
def top (i : Nat) : Stmt := PySem.Challenge.pw_clothholds_k78_whole_covers_and_long_pie.main.body.getD i (.Pass ⟨0, 0, 0, 0⟩)
def S0 (K : PySem.W.Frag) : ES := ⟨[], [], fun _ => none, fun _ => .none, fun _ => none⟩
abbrev FnP (K : PySem.W.Frag) (x : Str) (i : Nat) (f : Addr) (fd : FuncData) : Prop := FunD K x x (defArgs (top i)) (defBody (top i)) (defScope (top i)) [] [] f fd
structure G (K : PySem.W.Frag) (mg : Str → Option Value) : Prop where
  f__law_cup : ∃ fd, FnP K "_law_cup" 26 (He.ga K "_law_cup") fd
  g__law_cup : mg "_law_cup" = some (.ref (He.ga K "_law_cup"))
  f__law_sort : ∃ fd, FnP K "_law_sort" 29 (He.ga K "_law_sort") fd
  g__law_sort : mg "_law_sort" = some (.ref (He.ga K "_law_sort"))
  f__law_like : ∃ fd, FnP K "_law_like" 30 (He.ga K "_law_like") fd
  g__law_like : mg "_law_like" = some (.ref (He.ga K "_law_like"))
  f_is_tuple_of : ∃ fd, FnP K "is_tuple_of" 6 (He.ga K "is_tuple_of") fd
  g_is_tuple_of : mg "is_tuple_of" = some (.ref (He.ga K "is_tuple_of"))
  f_is_whole : ∃ fd, FnP K "is_whole" 5 (He.ga K "is_whole") fd
  g_is_whole : mg "is_whole" = some (.ref (He.ga K "is_whole"))
  f_fits_lengths : ∃ fd, FnP K "fits_lengths" 13 (He.ga K "fits_lengths") fd
  g_fits_lengths : mg "fits_lengths" = some (.ref (He.ga K "fits_lengths"))
  f_need_lengths : ∃ fd, FnP K "need_lengths" 14 (He.ga K "need_lengths") fd
  g_need_lengths : mg "need_lengths" = some (.ref (He.ga K "need_lengths"))
  f_need_bound : ∃ fd, FnP K "need_bound" 19 (He.ga K "need_bound") fd
  g_need_bound : mg "need_bound" = some (.ref (He.ga K "need_bound"))
  f_sums_of : ∃ fd, FnP K "sums_of" 16 (He.ga K "sums_of") fd
  g_sums_of : mg "sums_of" = some (.ref (He.ga K "sums_of"))
  f_is_good : ∃ fd, FnP K "is_good" 17 (He.ga K "is_good") fd
  g_is_good : mg "is_good" = some (.ref (He.ga K "is_good"))
  f_cover_in : ∃ fd, FnP K "cover_in" 18 (He.ga K "cover_in") fd
  g_cover_in : mg "cover_in" = some (.ref (He.ga K "cover_in"))
  f_fewest_pieces : ∃ fd, FnP K "fewest_pieces" 21 (He.ga K "fewest_pieces") fd
  g_fewest_pieces : mg "fewest_pieces" = some (.ref (He.ga K "fewest_pieces"))
  f_yard_cover : ∃ fd, FnP K "yard_cover" 22 (He.ga K "yard_cover") fd
  g_yard_cover : mg "yard_cover" = some (.ref (He.ga K "yard_cover"))
  f_is_rising : ∃ fd, FnP K "is_rising" 7 (He.ga K "is_rising") fd
  g_is_rising : mg "is_rising" = some (.ref (He.ga K "is_rising"))
  f_is_yard_cover : ∃ fd, FnP K "is_yard_cover" 23 (He.ga K "is_yard_cover") fd
  g_is_yard_cover : mg "is_yard_cover" = some (.ref (He.ga K "is_yard_cover"))
  f__law_roll : ∃ fd, FnP K "_law_roll" 27 (He.ga K "_law_roll") fd
  g__law_roll : mg "_law_roll" = some (.ref (He.ga K "_law_roll"))
  f__law_some : ∃ fd, FnP K "_law_some" 28 (He.ga K "_law_some") fd
  g__law_some : mg "_law_some" = some (.ref (He.ga K "_law_some"))
  f__law_lengths : ∃ fd, FnP K "_law_lengths" 32 (He.ga K "_law_lengths") fd
  g__law_lengths : mg "_law_lengths" = some (.ref (He.ga K "_law_lengths"))
  f_longest_good : ∃ fd, FnP K "longest_good" 24 (He.ga K "longest_good") fd
  g_longest_good : mg "longest_good" = some (.ref (He.ga K "longest_good"))
  f__law_faults : ∃ fd, FnP K "_law_faults" 33 (He.ga K "_law_faults") fd
  g__law_faults : mg "_law_faults" = some (.ref (He.ga K "_law_faults"))
  f__law_fewest : ∃ fd, FnP K "_law_fewest" 34 (He.ga K "_law_fewest") fd
  g__law_fewest : mg "_law_fewest" = some (.ref (He.ga K "_law_fewest"))
  f__law_greedy : ∃ fd, FnP K "_law_greedy" 36 (He.ga K "_law_greedy") fd
  g__law_greedy : mg "_law_greedy" = some (.ref (He.ga K "_law_greedy"))
  f_need_span : ∃ fd, FnP K "need_span" 15 (He.ga K "need_span") fd
  g_need_span : mg "need_span" = some (.ref (He.ga K "need_span"))
  f_faults_in : ∃ fd, FnP K "faults_in" 20 (He.ga K "faults_in") fd
  g_faults_in : mg "faults_in" = some (.ref (He.ga K "faults_in"))
  f__law_bent : ∃ fd, FnP K "_law_bent" 31 (He.ga K "_law_bent") fd
  g__law_bent : mg "_law_bent" = some (.ref (He.ga K "_law_bent"))
  f__law_longest : ∃ fd, FnP K "_law_longest" 37 (He.ga K "_law_longest") fd
  g__law_longest : mg "_law_longest" = some (.ref (He.ga K "_law_longest"))
  f__law_is_cover : ∃ fd, FnP K "_law_is_cover" 35 (He.ga K "_law_is_cover") fd
  g__law_is_cover : mg "_law_is_cover" = some (.ref (He.ga K "_law_is_cover"))
  f__law_right : ∃ fd, FnP K "_law_right" 38 (He.ga K "_law_right") fd
  g__law_right : mg "_law_right" = some (.ref (He.ga K "_law_right"))
  f_law : ∃ fd, FnP K "law" 39 (He.ga K "law") fd
  g_law : mg "law" = some (.ref (He.ga K "law"))
  b_abs : mg "abs" = none
  b_all : mg "all" = none
  b_bool : mg "bool" = none
  b_int : mg "int" = none
  b_isinstance : mg "isinstance" = none
  b_len : mg "len" = none
  b_list : mg "list" = none
  b_max : mg "max" = none
  b_min : mg "min" = none
  b_range : mg "range" = none
  b_set : mg "set" = none
  b_sorted : mg "sorted" = none
  b_str : mg "str" = none
  b_tuple : mg "tuple" = none
  b_zip : mg "zip" = none
  i_BOUND : ∃ t, mg "BOUND" = some (.int 120 t)
  i_FAULTS : ∃ t, mg "FAULTS" = some (.int 40 t)
  i_LONGEST : ∃ t, mg "LONGEST" = some (.int 60 t)
  i_OFTEN : ∃ t, mg "OFTEN" = some (.int 3 t)
section
variable {P : Program} {w : World} {K : PySem.W.Frag} {mg : Str → Option Value} {base : Heap}
/-! _law_cup -/
abbrev N__law_cup : List Str := ["script", "cell"]
abbrev ps__law_cup : List Str := ["script"]
theorem sc__law_cup : FnScope N__law_cup ps__law_cup (defScope (top 26)) := ⟨rfl, rfl, rfl, by decide +kernel, rfl, by decide +kernel, by decide +kernel⟩
def B__law_cup : Env → Res (D × Env) :=
  (fSeq (sSet 1 (eBlt bAbs (aCons (eBin dAt (eBin dAdd (eF (fBlt bLst (aCons (eVar 0) aNil))) (eF (fLst (aCons (eC (.int 0)) aNil)))) (eC (.int 0))) aNil))) (fLst (aCons (eIf (tB (eBin dGE (eVar 1) (eBin dPow (eC (.int 10)) (eC (.int 18))))) (eBin dDiv (eVar 1) (eC (.int 73))) (eC (.int 0))) (aCons (eBin dAdd (eBin dMod (eBlt bInt (aCons (eBin dAdd (eBin dMul (eVar 1) (eC (.int 283))) (eC (.int 3907))) aNil)) (eC (.int 2077503167))) (eC (.int 167))) aNil))))
def mf__law_cup : FF := ⟨ps__law_cup.length, runBF N__law_cup.length B__law_cup⟩
@[simp] theorem np__law_cup : mf__law_cup.np = 1 := nr rfl
theorem me__law_cup (ds : List D) : mf__law_cup.m ds = runBF 2 B__law_cup ds := nr rfl
theorem cf__law_cup (g : G K mg) : CalFF P w K mg base (S0 K) 1 "_law_cup" mf__law_cup := by
  obtain ⟨fd, F⟩ := g.f__law_cup
  refine calF_of (fn_evF (ow := []) (B := B__law_cup) (fun_of F) sc__law_cup (ho_of' rfl) fun cdv A outer s H E hr tk => ?_) g.g__law_cup F.kp (F.bindsN fun _ _ _ _ _ _ us hl => match us, hl with | [_], _ => rfl)
  exact (ef_seq (es_set (i := 1) (nmem_of rfl) (nmem_of rfl) sc__law_cup.nd rfl (Or.inl rfl) (ev_blt cd_abs rfl g.b_abs (by decide +kernel) (ea_cons (ev_ix (fun _ _ => rfl) (ix_allD (hu1 hr)) (ev_bin od_add (ev_f (ef_ty cf_lst rfl g.b_list (by decide +kernel) (ea_cons (ev_var (i := 0) (nmem_of rfl) rfl (Or.inl rfl)) ea_nil))) (ev_f (ef_lst (ea_cons ev_int ea_nil)))) ev_int) ea_nil)))
  (ef_ret (ef_lst (ea_cons (ev_if (et_cmp (od_GE (hu64 hr)) (ev_var (i := 1) (nmem_of rfl) rfl (Or.inl rfl)) (ev_bin od_pow ev_int ev_int) rfl) (ev_bin od_div (ev_var (i := 1) (nmem_of rfl) rfl (Or.inl rfl)) ev_int) ev_int) (ea_cons (ev_bin od_add (ev_bin od_mod (ev_ty cd_int rfl g.b_int (by decide +kernel) (ea_cons (ev_bin od_add (ev_bin od_mul (ev_var (i := 1) (nmem_of rfl) rfl (Or.inl rfl)) ev_int) ev_int) ea_nil)) ev_int) ev_int) ea_nil)))))
/-! _law_sort -/
abbrev N__law_sort : List Str := ["value"]
abbrev ps__law_sort : List Str := ["value"]
theorem sc__law_sort : FnScope N__law_sort ps__law_sort (defScope (top 29)) := ⟨rfl, rfl, rfl, by decide +kernel, rfl, by decide +kernel, by decide +kernel⟩
def B__law_sort : SS :=
  (bCons (sIf (tOr (tB (eBin (dIs false) (eVar 0) (eC .non))) (tTru (eIsi 1 (eVar 0)))) (bCons (sRet (eIf (tB (eBin (dIs false) (eVar 0) (eC .non))) (eC (.int 0)) (eC (.int 1)))) bNil) bNil) (bCons (sIf (tOr (tTru (eIsi 0 (eVar 0))) (tTru (eIsi 2 (eVar 0)))) (bCons (sRet (eIf (tTru (eIsi 0 (eVar 0))) (eC (.int 2)) (eC (.int 3)))) bNil) bNil) (bCons (sRet (eIf (tTru (eIsi 3 (eVar 0))) (eC (.int 4)) (eIf (tTru (eIsi 4 (eVar 0))) (eC (.int 5)) (eC (.int 6))))) bNil)))
def m__law_sort : FS := ⟨ps__law_sort.length, [], runB N__law_sort.length ps__law_sort.length [] B__law_sort⟩
@[simp] theorem np__law_sort : m__law_sort.np = 1 := nr rfl
theorem me__law_sort (ds : List D) : m__law_sort.m ds = runB 1 1 [] B__law_sort ds := nr rfl
theorem c__law_sort (g : G K mg) : CalF P w K mg base (S0 K) 1 "_law_sort" m__law_sort := by
  obtain ⟨fd, F⟩ := g.f__law_sort
  refine cal_of (fn_ev (ow := []) (bor := []) (B := B__law_sort) (fun_of F) sc__law_sort (all_in rfl) (hbl_of rfl) (ho_of rfl) fun cdv A outer s H E hr tk => ?_) g.g__law_sort F.kp (F.bindsN fun _ _ _ _ _ _ us hl => match us, hl with | [_], _ => rfl)
  exact (eb_cons (es_if (EvW.t (ew_or (et_cmp od_is (ev_var (i := 0) (nmem_of rfl) rfl (Or.inl rfl)) ev_non rfl) (ew_or1 (et_truth (ev_isi 1 (by decide) rfl g.b_isinstance rfl g.b_bool (by decide +kernel) (ev_var (i := 0) (nmem_of rfl) rfl (Or.inl rfl))) (fun _ => rfl))))) (eb_cons (es_ret (ev_if (et_cmp od_is (ev_var (i := 0) (nmem_of rfl) rfl (Or.inl rfl)) ev_non rfl) ev_int ev_int))
  eb_nil) eb_nil)
  (eb_cons (es_if (EvW.t (ew_or (et_truth (ev_isi 0 (by decide) rfl g.b_isinstance rfl g.b_int (by decide +kernel) (ev_var (i := 0) (nmem_of rfl) rfl (Or.inl rfl))) (fun _ => rfl)) (ew_or1 (et_truth (ev_isi 2 (by decide) rfl g.b_isinstance rfl g.b_str (by decide +kernel) (ev_var (i := 0) (nmem_of rfl) rfl (Or.inl rfl))) (fun _ => rfl))))) (eb_cons (es_ret (ev_if (et_truth (ev_isi 0 (by decide) rfl g.b_isinstance rfl g.b_int (by decide +kernel) (ev_var (i := 0) (nmem_of rfl) rfl (Or.inl rfl))) (fun _ => rfl)) ev_int ev_int))
  eb_nil) eb_nil)
  (eb_cons (es_ret (ev_if (et_truth (ev_isi 3 (by decide) rfl g.b_isinstance rfl g.b_tuple (by decide +kernel) (ev_var (i := 0) (nmem_of rfl) rfl (Or.inl rfl))) (fun _ => rfl)) ev_int (ev_if (et_truth (ev_isi 4 (by decide) rfl g.b_isinstance rfl g.b_list (by decide +kernel) (ev_var (i := 0) (nmem_of rfl) rfl (Or.inl rfl))) (fun _ => rfl)) ev_int ev_int)))
  eb_nil)))
/-! _law_like -/
abbrev N__law_like : List Str := ["one", "other", "sort", "first", "second"]
abbrev ps__law_like : List Str := ["one", "other"]
theorem sc__law_like : FnScope N__law_like ps__law_like (defScope (top 30)) := ⟨rfl, rfl, rfl, by decide +kernel, rfl, by decide +kernel, by decide +kernel⟩
def B__law_like (rec : FS) : SS :=
  (bCons (sSet 2 (eCall m__law_sort (aCons (eVar 1) aNil))) (bCons (sIf (tOr (tB (eBin dNeA (eCall m__law_sort (aCons (eVar 0) aNil)) (eVar 2))) (tB (eBin dEqA (eVar 2) (eC (.int 6))))) (bCons (sRet (eC (.bl false))) bNil) bNil) (bCons (sIf (tB (eBin (dIn id) (eVar 2) (eTup (aCons (eC (.int 4)) (aCons (eC (.int 5)) aNil))))) (bCons (sRet (eAnd (eBin dEqA (eBlt bLen (aCons (eVar 0) aNil)) (eBlt bLen (aCons (eVar 1) aNil))) (eBin dEqA (eF (fLc [3, 4] (iRng zip2 (aCons (eVar 0) (aCons (eVar 1) aNil))) (gTupD 2 (gsCons (gNm 3) (gsCons (gNm 4) gsNil))) (tNot (tTru (eCall rec (aCons (eVar 3) (aCons (eVar 4) aNil))))) (eC (.int 1)))) (eF (fLst aNil))))) bNil) bNil) (bCons (sRet (eBin dEqA (eVar 0) (eVar 1))) bNil))))
def mr__law_like : Nat → FS
  | 0 => noF ps__law_like.length []
  | n + 1 => ⟨ps__law_like.length, [], runB N__law_like.length ps__law_like.length [] (B__law_like (mr__law_like n))⟩
theorem bor__law_like : ∀ n, (mr__law_like n).bor = []
  | 0 => rfl
  | _ + 1 => rfl
theorem cr__law_like (g : G K mg) : ∀ n, CalF P w K mg base (S0 K) (1 + n) "_law_like" (mr__law_like n)
  | 0 => by
    obtain ⟨fd, F⟩ := g.f__law_like
    exact cal_of fn_no g.g__law_like F.kp (F.bindsN fun _ _ _ _ _ _ us hl => match us, hl with | [_, _], _ => rfl)
  | n + 1 => by
    obtain ⟨fd, F⟩ := g.f__law_like
    have crec := cr__law_like g n
    refine cal_of (fn_ev (ow := []) (bor := []) (B := B__law_like (mr__law_like n)) (fun_of F) sc__law_like (all_in rfl) (hbl_of rfl) (ho_of rfl) fun cdv A outer s H E hr tk => ?_) g.g__law_like F.kp (F.bindsN fun _ _ _ _ _ _ us hl => match us, hl with | [_, _], _ => rfl)
    exact (eb_cons (es_set (i := 2) (nmem_of rfl) (nmem_of rfl) sc__law_like.nd rfl (Or.inl rfl) (ev_call tk (c__law_sort g) same0 rfl hr (Nat.le_trans (by decide) (Nat.le_add_right _ _)) rfl (ea_cons (ev_var (i := 1) (nmem_of rfl) rfl (Or.inl rfl)) ea_nil)))
  (eb_cons (es_if (EvW.t (ew_or (et_cmp (od_neA (hu64 hr)) (ev_call tk (c__law_sort g) same0 rfl hr (Nat.le_trans (by decide) (Nat.le_add_right _ _)) rfl (ea_cons (ev_var (i := 0) (nmem_of rfl) rfl (Or.inl rfl)) ea_nil)) (ev_var (i := 2) (nmem_of rfl) rfl (Or.inl rfl)) rfl) (ew_or1 (et_cmp (od_eqA (hu64 hr)) (ev_var (i := 2) (nmem_of rfl) rfl (Or.inl rfl)) ev_int rfl)))) (eb_cons (es_ret ev_bl)
  eb_nil) eb_nil)
  (eb_cons (es_if (et_cmp (od_in (hu65 hr)) (ev_var (i := 2) (nmem_of rfl) rfl (Or.inl rfl)) (ev_tup (ea_cons ev_int (ea_cons ev_int ea_nil))) rfl) (eb_cons (es_ret (ev_and (ev_cmp (od_eqA (hu64 hr)) (ev_blt cd_len rfl g.b_len (by decide +kernel) (ea_cons (ev_var (i := 0) (nmem_of rfl) rfl (Or.inl rfl)) ea_nil)) (ev_blt cd_len rfl g.b_len (by decide +kernel) (ea_cons (ev_var (i := 1) (nmem_of rfl) rfl (Or.inl rfl)) ea_nil)) rfl) (ev_one (ev_cmp (od_eqA (hu64 hr)) (ev_f (ef_lcIf (own := [("first", 3), ("second", 4)]) rfl sc__law_like.nd (all_not rfl) (all_not rfl) (all_in rfl) (ei_zip rfl g.b_zip (ea_cons (ev_var (i := 0) (nmem_of rfl) rfl (Or.inl rfl)) (ea_cons (ev_var (i := 1) (nmem_of rfl) rfl (Or.inl rfl)) ea_nil))) (blkOk_by (by rfl)) (fun _ _ _ _ _ => (eg_tup rfl (egs_cons (eg_nm (i := 3) (nmem_of rfl) (nmem_of rfl) sc__law_like.nd rfl (Or.inl rfl)) (egs_cons (eg_nm (i := 4) (nmem_of rfl) (nmem_of rfl) sc__law_like.nd rfl (Or.inl rfl)) egs_nil)))) (fun _ _ _ _ _ => (et_not (et_truth (ev_call takes0 crec same0 (bor__law_like n) hr (Nat.le_refl _) rfl (ea_cons (ev_var (i := 3) (nmem_of rfl) rfl (Or.inl rfl)) (ea_cons (ev_var (i := 4) (nmem_of rfl) rfl (Or.inl rfl)) ea_nil))) (fun _ => rfl)))) (fun _ _ _ _ _ => ev_int))) (ev_f (ef_lst ea_nil)) rfl))))
  eb_nil) eb_nil)
  (eb_cons (es_ret (ev_cmp (od_eqA (hu64 hr)) (ev_var (i := 0) (nmem_of rfl) rfl (Or.inl rfl)) (ev_var (i := 1) (nmem_of rfl) rfl (Or.inl rfl)) rfl))
  eb_nil))))
@[simp] theorem npr__law_like : ∀ n, (mr__law_like n).np = 2
  | 0 => rfl
  | _ + 1 => rfl
theorem mer__law_like (n : Nat) (ds : List D) : (mr__law_like (n + 1)).m ds = runB 5 2 [] (B__law_like (mr__law_like n)) ds := nr rfl
def m__law_like : FS := mr__law_like 8
@[simp] theorem np__law_like : m__law_like.np = 2 := nr rfl
theorem c__law_like (g : G K mg) : CalF P w K mg base (S0 K) 9 "_law_like" m__law_like := cr__law_like g 8
/-! is_tuple_of -/
abbrev N_is_tuple_of : List Str := ["value", "low", "high"]
abbrev ps_is_tuple_of : List Str := ["value", "low", "high"]
theorem sc_is_tuple_of : FnScope N_is_tuple_of ps_is_tuple_of (defScope (top 6)) := ⟨rfl, rfl, rfl, by decide +kernel, rfl, by decide +kernel, by decide +kernel⟩
def B_is_tuple_of : SS :=
  (bCons (sRet (eAnd (eIsi 3 (eVar 0)) (eChain dLE dLE (eVar 1) (eBlt bLen (aCons (eVar 0) aNil)) (eVar 2)))) bNil)
def m_is_tuple_of : FS := ⟨ps_is_tuple_of.length, [], runB N_is_tuple_of.length ps_is_tuple_of.length [] B_is_tuple_of⟩
@[simp] theorem np_is_tuple_of : m_is_tuple_of.np = 3 := nr rfl
theorem me_is_tuple_of (ds : List D) : m_is_tuple_of.m ds = runB 3 3 [] B_is_tuple_of ds := nr rfl
theorem c_is_tuple_of (g : G K mg) : CalF P w K mg base (S0 K) 1 "is_tuple_of" m_is_tuple_of := by
  obtain ⟨fd, F⟩ := g.f_is_tuple_of
  refine cal_of (fn_ev (ow := []) (bor := []) (B := B_is_tuple_of) (fun_of F) sc_is_tuple_of (all_in rfl) (hbl_of rfl) (ho_of rfl) fun cdv A outer s H E hr tk => ?_) g.g_is_tuple_of F.kp (F.bindsN fun _ _ _ _ _ _ us hl => match us, hl with | [_, _, _], _ => rfl)
  exact (eb_cons (es_ret (ev_and (ev_isi 3 (by decide) rfl g.b_isinstance rfl g.b_tuple (by decide +kernel) (ev_var (i := 0) (nmem_of rfl) rfl (Or.inl rfl))) (ev_one (ev_chain (od_LE (hu64 hr)) (od_LE (hu64 hr)) (ev_var (i := 1) (nmem_of rfl) rfl (Or.inl rfl)) (ev_blt cd_len rfl g.b_len (by decide +kernel) (ea_cons (ev_var (i := 0) (nmem_of rfl) rfl (Or.inl rfl)) ea_nil)) (ev_var (i := 2) (nmem_of rfl) rfl (Or.inl rfl))))))
  eb_nil)
/-! is_whole -/
abbrev N_is_whole : List Str := ["value", "low", "high"]
abbrev ps_is_whole : List Str := ["value", "low", "high"]
theorem sc_is_whole : FnScope N_is_whole ps_is_whole (defScope (top 5)) := ⟨rfl, rfl, rfl, by decide +kernel, rfl, by decide +kernel, by decide +kernel⟩
def B_is_whole : SS :=
  (bCons (sRet (eAnd (eIsi 0 (eVar 0)) (eAnd (eNot (eIsi 1 (eVar 0))) (eChain dLE dLE (eVar 1) (eVar 0) (eVar 2))))) bNil)
def m_is_whole : FS := ⟨ps_is_whole.length, [], runB N_is_whole.length ps_is_whole.length [] B_is_whole⟩
@[simp] theorem np_is_whole : m_is_whole.np = 3 := nr rfl
theorem me_is_whole (ds : List D) : m_is_whole.m ds = runB 3 3 [] B_is_whole ds := nr rfl
theorem c_is_whole (g : G K mg) : CalF P w K mg base (S0 K) 1 "is_whole" m_is_whole := by
  obtain ⟨fd, F⟩ := g.f_is_whole
  refine cal_of (fn_ev (ow := []) (bor := []) (B := B_is_whole) (fun_of F) sc_is_whole (all_in rfl) (hbl_of rfl) (ho_of rfl) fun cdv A outer s H E hr tk => ?_) g.g_is_whole F.kp (F.bindsN fun _ _ _ _ _ _ us hl => match us, hl with | [_, _, _], _ => rfl)
  exact (eb_cons (es_ret (ev_and (ev_isi 0 (by decide) rfl g.b_isinstance rfl g.b_int (by decide +kernel) (ev_var (i := 0) (nmem_of rfl) rfl (Or.inl rfl))) (ev_and (ev_not (ev_isi 1 (by decide) rfl g.b_isinstance rfl g.b_bool (by decide +kernel) (ev_var (i := 0) (nmem_of rfl) rfl (Or.inl rfl)))) (ev_one (ev_chain (od_LE (hu64 hr)) (od_LE (hu64 hr)) (ev_var (i := 1) (nmem_of rfl) rfl (Or.inl rfl)) (ev_var (i := 0) (nmem_of rfl) rfl (Or.inl rfl)) (ev_var (i := 2) (nmem_of rfl) rfl (Or.inl rfl)))))))
  eb_nil)
/-! fits_lengths -/
abbrev N_fits_lengths : List Str := ["value", "yard", "one", "other"]
abbrev ps_fits_lengths : List Str := ["value"]
theorem sc_fits_lengths : FnScope N_fits_lengths ps_fits_lengths (defScope (top 13)) := ⟨rfl, rfl, rfl, by decide +kernel, rfl, by decide +kernel, by decide +kernel⟩
def B_fits_lengths : SS :=
  (bCons (sIf (tOr (tNot (tTru (eCall m_is_tuple_of (aCons (eVar 0) (aCons (eC (.int 2)) (aCons (eC (.int 2)) aNil)))))) (tOr (tNot (tTru (eCall m_is_whole (aCons (eBin dAt (eVar 0) (eC (.int 0))) (aCons (eC (.int 1)) (aCons (eC (.int 60)) aNil)))))) (tNot (tTru (eCall m_is_tuple_of (aCons (eBin dAt (eVar 0) (eC (.int 1))) (aCons (eC (.int 0)) (aCons (eC (.int 40)) aNil)))))))) (bCons (sRet (eC (.bl false))) bNil) bNil) (bCons (sIf (tNot (tTru (eBlt bAll (aCons (eF (fLc [1] (iSeq (eBin dAt (eVar 0) (eC (.int 1)))) (gNm 1) cYes (eCall m_is_whole (aCons (eVar 1) (aCons (eC (.int 0)) (aCons (eBin dSub (eBin dAt (eVar 0) (eC (.int 0))) (eC (.int 1))) aNil)))))) aNil)))) (bCons (sRet (eC (.bl false))) bNil) bNil) (bCons (sIf (tNot (tTru (eBlt bAll (aCons (eF (fLc [2, 3] (iRng zip2 (aCons (eBin dAt (eVar 0) (eC (.int 1))) (aCons (eSl (eBin dAt (eVar 0) (eC (.int 1))) (pSome (eC (.int 1))) pNone) aNil))) (gTupD 2 (gsCons (gNm 2) (gsCons (gNm 3) gsNil))) cYes (eBin dLE (eVar 2) (eVar 3)))) aNil)))) (bCons (sRet (eC (.bl false))) bNil) bNil) (bCons (sRet (eBlt bAll (aCons (eF (fLc [1] (iSeq (eBin dAt (eVar 0) (eC (.int 1)))) (gNm 1) cYes (eBin dLE (eCnt (eBin dAt (eVar 0) (eC (.int 1))) (eVar 1)) (eC (.int 3))))) aNil))) bNil))))
def m_fits_lengths : FS := ⟨ps_fits_lengths.length, [], runB N_fits_lengths.length ps_fits_lengths.length [] B_fits_lengths⟩
@[simp] theorem np_fits_lengths : m_fits_lengths.np = 1 := nr rfl
theorem me_fits_lengths (ds : List D) : m_fits_lengths.m ds = runB 4 1 [] B_fits_lengths ds := nr rfl
theorem c_fits_lengths (g : G K mg) : CalF P w K mg base (S0 K) 2 "fits_lengths" m_fits_lengths := by
  obtain ⟨fd, F⟩ := g.f_fits_lengths
  refine cal_of (fn_ev (ow := []) (bor := []) (B := B_fits_lengths) (fun_of F) sc_fits_lengths (all_in rfl) (hbl_of rfl) (ho_of rfl) fun cdv A outer s H E hr tk => ?_) g.g_fits_lengths F.kp (F.bindsN fun _ _ _ _ _ _ us hl => match us, hl with | [_], _ => rfl)
  exact (eb_cons (es_if (EvW.t (ew_or (et_not (et_truth (ev_call tk (c_is_tuple_of g) same0 rfl hr (by decide) rfl (ea_cons (ev_var (i := 0) (nmem_of rfl) rfl (Or.inr (Or.inl rfl))) (ea_cons ev_int (ea_cons ev_int ea_nil)))) (fun _ => rfl))) (ew_or (et_not (et_truth (ev_call tk (c_is_whole g) same0 rfl hr (by decide) rfl (ea_cons (ev_ix (fun _ _ => rfl) (ix_allD (hu1 hr)) (ev_var (i := 0) (nmem_of rfl) rfl (Or.inr (Or.inl rfl))) ev_int) (ea_cons ev_int (ea_cons (ev_gint rfl g.i_LONGEST) ea_nil)))) (fun _ => rfl))) (ew_or1 (et_not (et_truth (ev_call tk (c_is_tuple_of g) same0 rfl hr (by decide) rfl (ea_cons (ev_ix (fun _ _ => rfl) (ix_allD (hu1 hr)) (ev_var (i := 0) (nmem_of rfl) rfl (Or.inr (Or.inl rfl))) ev_int) (ea_cons ev_int (ea_cons (ev_gint rfl g.i_FAULTS) ea_nil)))) (fun _ => rfl))))))) (eb_cons (es_ret ev_bl)
  eb_nil) eb_nil)
  (eb_cons (es_if (et_not (et_truth (ev_blt (cd_all rfl) rfl g.b_all (by decide +kernel) (ea_cons (ev_f (ef_lc (own := [("yard", 1)]) rfl sc_fits_lengths.nd (all_not rfl) (all_not rfl) (all_in rfl) (ei_seq (ev_ix (fun _ _ => rfl) (ix_allD (hu1 hr)) (ev_var (i := 0) (nmem_of rfl) rfl (Or.inr (Or.inl rfl))) ev_int)) (blkOk_by (by rfl)) (fun _ _ _ _ _ => (eg_nm (i := 1) (nmem_of rfl) (nmem_of rfl) sc_fits_lengths.nd rfl (Or.inl rfl))) (fun _ _ _ _ _ => (ev_call takes0 (c_is_whole g) same0 rfl hr (by decide) rfl (ea_cons (ev_var (i := 1) (nmem_of rfl) rfl (Or.inl rfl)) (ea_cons ev_int (ea_cons (ev_bin od_sub (ev_ix (fun _ _ => rfl) (ix_allD (hu1 hr)) (ev_var (i := 0) (nmem_of rfl) rfl (Or.inr (Or.inl rfl))) ev_int) ev_int) ea_nil))))))) ea_nil)) (fun _ => rfl))) (eb_cons (es_ret ev_bl)
  eb_nil) eb_nil)
  (eb_cons (es_if (et_not (et_truth (ev_blt (cd_all rfl) rfl g.b_all (by decide +kernel) (ea_cons (ev_f (ef_lc (own := [("one", 2), ("other", 3)]) rfl sc_fits_lengths.nd (all_not rfl) (all_not rfl) (all_in rfl) (ei_zip rfl g.b_zip (ea_cons (ev_ix (fun _ _ => rfl) (ix_allD (hu1 hr)) (ev_var (i := 0) (nmem_of rfl) rfl (Or.inr (Or.inl rfl))) ev_int) (ea_cons (ev_slice (ev_ix (fun _ _ => rfl) (ix_allD (hu1 hr)) (ev_var (i := 0) (nmem_of rfl) rfl (Or.inr (Or.inl rfl))) ev_int) (ep_some ev_int) ep_none) ea_nil))) (blkOk_by (by rfl)) (fun _ _ _ _ _ => (eg_tup rfl (egs_cons (eg_nm (i := 2) (nmem_of rfl) (nmem_of rfl) sc_fits_lengths.nd rfl (Or.inl rfl)) (egs_cons (eg_nm (i := 3) (nmem_of rfl) (nmem_of rfl) sc_fits_lengths.nd rfl (Or.inl rfl)) egs_nil)))) (fun _ _ _ _ _ => (ev_cmp (od_LE (hu64 hr)) (ev_var (i := 2) (nmem_of rfl) rfl (Or.inl rfl)) (ev_var (i := 3) (nmem_of rfl) rfl (Or.inl rfl)) rfl)))) ea_nil)) (fun _ => rfl))) (eb_cons (es_ret ev_bl)
  eb_nil) eb_nil)
  (eb_cons (es_ret (ev_blt (cd_all rfl) rfl g.b_all (by decide +kernel) (ea_cons (ev_f (ef_lc (own := [("yard", 1)]) rfl sc_fits_lengths.nd (all_not rfl) (all_not rfl) (all_in rfl) (ei_seq (ev_ix (fun _ _ => rfl) (ix_allD (hu1 hr)) (ev_var (i := 0) (nmem_of rfl) rfl (Or.inr (Or.inl rfl))) ev_int)) (blkOk_by (by rfl)) (fun _ _ _ _ _ => (eg_nm (i := 1) (nmem_of rfl) (nmem_of rfl) sc_fits_lengths.nd rfl (Or.inl rfl))) (fun _ _ _ _ _ => (ev_cmp (od_LE (hu64 hr)) (ev_count (ev_ix (fun _ _ => rfl) (ix_allD (hu1 hr)) (ev_var (i := 0) (nmem_of rfl) rfl (Or.inr (Or.inl rfl))) ev_int) (ev_var (i := 1) (nmem_of rfl) rfl (Or.inl rfl))) (ev_gint rfl g.i_OFTEN) rfl)))) ea_nil)))
  eb_nil))))
/-! need_lengths -/
abbrev N_need_lengths : List Str := ["value"]
abbrev ps_need_lengths : List Str := ["value"]
theorem sc_need_lengths : FnScope N_need_lengths ps_need_lengths (defScope (top 14)) := ⟨rfl, rfl, rfl, by decide +kernel, rfl, by decide +kernel, by decide +kernel⟩
def B_need_lengths : SS :=
  (bCons (sIf (tNot (tTru (eCall m_fits_lengths (aCons (eVar 0) aNil)))) (bCons sNo bNil) bNil) bNil)
def m_need_lengths : FS := ⟨ps_need_lengths.length, [], runB N_need_lengths.length ps_need_lengths.length [] B_need_lengths⟩
@[simp] theorem np_need_lengths : m_need_lengths.np = 1 := nr rfl
theorem me_need_lengths (ds : List D) : m_need_lengths.m ds = runB 1 1 [] B_need_lengths ds := nr rfl
theorem c_need_lengths (g : G K mg) : CalF P w K mg base (S0 K) 3 "need_lengths" m_need_lengths := by
  obtain ⟨fd, F⟩ := g.f_need_lengths
  refine cal_of (fn_ev (ow := []) (bor := []) (B := B_need_lengths) (fun_of F) sc_need_lengths (all_in rfl) (hbl_of rfl) (ho_of rfl) fun cdv A outer s H E hr tk => ?_) g.g_need_lengths F.kp (F.bindsN fun _ _ _ _ _ _ us hl => match us, hl with | [_], _ => rfl)
  exact (eb_cons (es_if (et_not (et_truth (ev_call tk (c_fits_lengths g) same0 rfl hr (by decide) rfl (ea_cons (ev_var (i := 0) (nmem_of rfl) rfl (Or.inl rfl)) ea_nil)) (fun _ => rfl))) (eb_cons es_no
  eb_nil) eb_nil)
  eb_nil)
/-! need_bound -/
abbrev N_need_bound : List Str := ["lengths", "bound"]
abbrev ps_need_bound : List Str := ["lengths", "bound"]
theorem sc_need_bound : FnScope N_need_bound ps_need_bound (defScope (top 19)) := ⟨rfl, rfl, rfl, by decide +kernel, rfl, by decide +kernel, by decide +kernel⟩
def B_need_bound : SS :=
  (bCons (sExpr (eCall m_need_lengths (aCons (eVar 0) aNil))) (bCons (sIf (tNot (tTru (eCall m_is_whole (aCons (eVar 1) (aCons (eC (.int 0)) (aCons (eC (.int 120)) aNil)))))) (bCons sNo bNil) bNil) bNil))
def m_need_bound : FS := ⟨ps_need_bound.length, [], runB N_need_bound.length ps_need_bound.length [] B_need_bound⟩
@[simp] theorem np_need_bound : m_need_bound.np = 2 := nr rfl
theorem me_need_bound (ds : List D) : m_need_bound.m ds = runB 2 2 [] B_need_bound ds := nr rfl
theorem c_need_bound (g : G K mg) : CalF P w K mg base (S0 K) 4 "need_bound" m_need_bound := by
  obtain ⟨fd, F⟩ := g.f_need_bound
  refine cal_of (fn_ev (ow := []) (bor := []) (B := B_need_bound) (fun_of F) sc_need_bound (all_in rfl) (hbl_of rfl) (ho_of rfl) fun cdv A outer s H E hr tk => ?_) g.g_need_bound F.kp (F.bindsN fun _ _ _ _ _ _ us hl => match us, hl with | [_, _], _ => rfl)
  exact (eb_cons (es_expr (ev_call tk (c_need_lengths g) same0 rfl hr (by decide) rfl (ea_cons (ev_var (i := 0) (nmem_of rfl) rfl (Or.inl rfl)) ea_nil)))
  (eb_cons (es_if (et_not (et_truth (ev_call tk (c_is_whole g) same0 rfl hr (by decide) rfl (ea_cons (ev_var (i := 1) (nmem_of rfl) rfl (Or.inl rfl)) (ea_cons ev_int (ea_cons (ev_gint rfl g.i_BOUND) ea_nil)))) (fun _ => rfl))) (eb_cons es_no
  eb_nil) eb_nil)
  eb_nil))
/-! sums_of -/
abbrev N_sums_of : List Str := ["lengths", "found", "yard"]
abbrev ps_sums_of : List Str := ["lengths"]
theorem sc_sums_of : FnScope N_sums_of ps_sums_of (defScope (top 16)) := ⟨rfl, rfl, rfl, by decide +kernel, rfl, by decide +kernel, by decide +kernel⟩
def B_sums_of : SS :=
  (bCons (sSetF 1 (fLst (aCons (eC (.int 0)) aNil))) (bCons (sFor (iRng rng1 (aCons (eBin dAt (eVar 0) (eC (.int 0))) aNil)) (gNm 2) (bCons (sExpr (eApp (ePlc 1) (eBin dAdd (eBin dAt (ePlc 1) (eUn dNeg (eC (.int 1)))) (eCnt (eBin dAt (eVar 0) (eC (.int 1))) (eVar 2))))) bNil)) (bFrz 1 (bCons (sRet (eVar 1)) bNil))))
def m_sums_of : FS := ⟨ps_sums_of.length, [], runB N_sums_of.length ps_sums_of.length [] B_sums_of⟩
@[simp] theorem np_sums_of : m_sums_of.np = 1 := nr rfl
theorem me_sums_of (ds : List D) : m_sums_of.m ds = runB 3 1 [] B_sums_of ds := nr rfl
theorem c_sums_of (g : G K mg) : CalF P w K mg base (S0 K) 1 "sums_of" m_sums_of := by
  obtain ⟨fd, F⟩ := g.f_sums_of
  refine cal_of (fn_ev (ow := [1]) (bor := []) (B := B_sums_of) (fun_of F) sc_sums_of (all_in rfl) (hbl_of rfl) (ho_of rfl) fun cdv A outer s H E hr tk => ?_) g.g_sums_of F.kp (F.bindsN fun _ _ _ _ _ _ us hl => match us, hl with | [_], _ => rfl)
  exact (eb_cons (es_setF (i := 1) (mem_of rfl) (nmem_of rfl) sc_sums_of.nd rfl (Or.inl rfl) (ef_lst (ea_cons ev_int ea_nil)))
  (eb_cons (es_for (passes_of rfl) rfl (ei_range1 rfl g.b_range (ea_cons (ev_ix (fun _ _ => rfl) (ix_allD (hu1 hr)) (ev_var (i := 0) (nmem_of rfl) rfl (Or.inl rfl)) ev_int) ea_nil)) (eg_nm (i := 2) (nmem_of rfl) (nmem_of rfl) sc_sums_of.nd rfl (Or.inl rfl)) (eb_cons (es_expr (ev_app (ev_plc (i := 1) (mem_of rfl) rfl (Or.inl rfl)) (ev_bin od_add (ev_ix (fun _ _ => rfl) (ix_allD (hu1 hr)) (ev_plc (i := 1) (mem_of rfl) rfl (Or.inl rfl)) (ev_un ud_neg ev_int)) (ev_count (ev_ix (fun _ _ => rfl) (ix_allD (hu1 hr)) (ev_var (i := 0) (nmem_of rfl) rfl (Or.inl rfl)) ev_int) (ev_var (i := 2) (nmem_of rfl) rfl (Or.inl rfl))))))
  eb_nil))
  (eb_frz (i := 1) (ow' := []) (frz_of rfl) (nmem_of rfl) (nmem_of rfl)
  (eb_cons (es_ret (ev_var (i := 1) (nmem_of rfl) rfl (Or.inl rfl)))
  eb_nil))))
/-! is_good -/
abbrev N_is_good : List Str := ["sums", "bound", "start", "end"]
abbrev ps_is_good : List Str := ["sums", "bound", "start", "end"]
theorem sc_is_good : FnScope N_is_good ps_is_good (defScope (top 17)) := ⟨rfl, rfl, rfl, by decide +kernel, rfl, by decide +kernel, by decide +kernel⟩
def B_is_good : SS :=
  (bCons (sRet (eBin dLE (eBin dSub (eBin dAt (eVar 0) (eVar 3)) (eBin dAt (eVar 0) (eVar 2))) (eVar 1))) bNil)
def m_is_good : FS := ⟨ps_is_good.length, [], runB N_is_good.length ps_is_good.length [] B_is_good⟩
@[simp] theorem np_is_good : m_is_good.np = 4 := nr rfl
theorem me_is_good (ds : List D) : m_is_good.m ds = runB 4 4 [] B_is_good ds := nr rfl
theorem c_is_good (g : G K mg) : CalF P w K mg base (S0 K) 1 "is_good" m_is_good := by
  obtain ⟨fd, F⟩ := g.f_is_good
  refine cal_of (fn_ev (ow := []) (bor := []) (B := B_is_good) (fun_of F) sc_is_good (all_in rfl) (hbl_of rfl) (ho_of rfl) fun cdv A outer s H E hr tk => ?_) g.g_is_good F.kp (F.bindsN fun _ _ _ _ _ _ us hl => match us, hl with | [_, _, _, _], _ => rfl)
  exact (eb_cons (es_ret (ev_cmp (od_LE (hu64 hr)) (ev_bin od_sub (ev_ix (fun _ _ => rfl) (ix_allD (hu1 hr)) (ev_var (i := 0) (nmem_of rfl) rfl (Or.inl rfl)) (ev_var (i := 3) (nmem_of rfl) rfl (Or.inl rfl))) (ev_ix (fun _ _ => rfl) (ix_allD (hu1 hr)) (ev_var (i := 0) (nmem_of rfl) rfl (Or.inl rfl)) (ev_var (i := 2) (nmem_of rfl) rfl (Or.inl rfl)))) (ev_var (i := 1) (nmem_of rfl) rfl (Or.inl rfl)) rfl))
  eb_nil)
/-! cover_in -/
abbrev N_cover_in : List Str := ["lengths", "bound", "sums", "found", "ends", "end"]
abbrev ps_cover_in : List Str := ["lengths", "bound"]
theorem sc_cover_in : FnScope N_cover_in ps_cover_in (defScope (top 18)) := ⟨rfl, rfl, rfl, by decide +kernel, rfl, by decide +kernel, by decide +kernel⟩
def B_cover_in : SS :=
  (bCons (sPar [(2, false), (3, true)] (qVal (eCall m_sums_of (aCons (eVar 0) aNil)) (qNew (fLst (aCons (eC (.int 0)) aNil)) qNil))) (bCons (whileL (tB (eBin dLT (eBin dAt (ePlc 3) (eUn dNeg (eC (.int 1)))) (eBin dAt (eVar 0) (eC (.int 0))))) (bCons (sSet 4 (eF (fLc [5] (iRng rng2 (aCons (eBin dAdd (eBin dAt (ePlc 3) (eUn dNeg (eC (.int 1)))) (eC (.int 1))) (aCons (eBin dAdd (eBin dAt (eVar 0) (eC (.int 0))) (eC (.int 1))) aNil))) (gNm 5) (tTru (eCall m_is_good (aCons (eVar 2) (aCons (eVar 1) (aCons (eBin dAt (ePlc 3) (eUn dNeg (eC (.int 1)))) (aCons (eVar 5) aNil)))))) (eVar 5)))) (bCons (sIf (tB (eBin dEqA (eVar 4) (eF (fLst aNil)))) (bCons (sRet (eC .non)) bNil) bNil) (bCons (sExpr (eApp (ePlc 3) (eBin dAt (eVar 4) (eUn dNeg (eC (.int 1)))))) bNil))) 100000) (bFrz 3 (bCons (sRet (eBlt bTup (aCons (eVar 3) aNil))) bNil))))
def m_cover_in : FS := ⟨ps_cover_in.length, [], runB N_cover_in.length ps_cover_in.length [] B_cover_in⟩
@[simp] theorem np_cover_in : m_cover_in.np = 2 := nr rfl
theorem me_cover_in (ds : List D) : m_cover_in.m ds = runB 6 2 [] B_cover_in ds := nr rfl
theorem c_cover_in (g : G K mg) : CalF P w K mg base (S0 K) 2 "cover_in" m_cover_in := by
  obtain ⟨fd, F⟩ := g.f_cover_in
  refine cal_of (fn_ev (ow := [3]) (bor := []) (B := B_cover_in) (fun_of F) sc_cover_in (all_in rfl) (hbl_of rfl) (ho_of rfl) fun cdv A outer s H E hr tk => ?_) g.g_cover_in F.kp (F.bindsN fun _ _ _ _ _ _ us hl => match us, hl with | [_, _], _ => rfl)
  exact (eb_cons (es_parG (is := [(2, false), (3, true)]) (okT_of rfl) rfl (pgsS_cons (i := 2) (b := false) sc_cover_in.nd rfl (Or.inr rfl) (pgsS_cons (i := 3) (b := true) sc_cover_in.nd rfl (Or.inr rfl) pgsS_nil)) rfl (by decide) (eq_val (ev_call tk (c_sums_of g) same0 rfl hr (by decide) rfl (ea_cons (ev_var (i := 0) (nmem_of rfl) rfl (Or.inl rfl)) ea_nil)) (eq_new (ef_lst (ea_cons ev_int ea_nil)) eq_nil)))
  (eb_cons (es_while 100000 (passes_of rfl) (et_cmp (od_LT (hu64 hr)) (ev_ix (fun _ _ => rfl) (ix_allD (hu1 hr)) (ev_plc (i := 3) (mem_of rfl) rfl (Or.inr (Or.inl rfl))) (ev_un ud_neg ev_int)) (ev_ix (fun _ _ => rfl) (ix_allD (hu1 hr)) (ev_var (i := 0) (nmem_of rfl) rfl (Or.inl rfl)) ev_int) rfl) (eb_cons (es_setLc (lc_partsIf (own := [("end", 5)]) (i := 4) rfl sc_cover_in.nd (all_not rfl) (all_not rfl) (all_in rfl) rfl rfl rfl rfl (by rfl) (ei_range2 rfl g.b_range (ea_cons (ev_bin od_add (ev_ix (fun _ _ => rfl) (ix_allD (hu1 hr)) (ev_plc (i := 3) (mem_of rfl) rfl (Or.inr (Or.inl rfl))) (ev_un ud_neg ev_int)) ev_int) (ea_cons (ev_bin od_add (ev_ix (fun _ _ => rfl) (ix_allD (hu1 hr)) (ev_var (i := 0) (nmem_of rfl) rfl (Or.inl rfl)) ev_int) ev_int) ea_nil))) (blkOk_by (by rfl)) (fun _ _ _ _ _ => (eg_nm (i := 5) (nmem_of rfl) (nmem_of rfl) sc_cover_in.nd rfl (Or.inl rfl))) (fun _ _ _ _ _ => (et_truth (ev_call takes0 (c_is_good g) same0 rfl hr (by decide) rfl (ea_cons (ev_var (i := 2) (nmem_of rfl) rfl (Or.inr (Or.inl rfl))) (ea_cons (ev_var (i := 1) (nmem_of rfl) rfl (Or.inr (Or.inl rfl))) (ea_cons (ev_ix (fun _ _ => rfl) (ix_allD (hu1 hr)) (ev_plc (i := 3) (mem_of rfl) rfl (Or.inr (Or.inl rfl))) (ev_un ud_neg ev_int)) (ea_cons (ev_var (i := 5) (nmem_of rfl) rfl (Or.inl rfl)) ea_nil))))) (fun _ => rfl))) (fun _ _ _ _ _ => (ev_var (i := 5) (nmem_of rfl) rfl (Or.inl rfl)))) (nmem_of rfl) (nmem_of rfl))
  (eb_cons (es_if (et_cmp (od_eqA (hu64 hr)) (ev_var (i := 4) (nmem_of rfl) rfl (Or.inl rfl)) (ev_f (ef_lst ea_nil)) rfl) (eb_cons (es_ret ev_non)
  eb_nil) eb_nil)
  (eb_cons (es_expr (ev_app (ev_plc (i := 3) (mem_of rfl) rfl (Or.inr (Or.inl rfl))) (ev_ix (fun _ _ => rfl) (ix_allD (hu1 hr)) (ev_var (i := 4) (nmem_of rfl) rfl (Or.inl rfl)) (ev_un ud_neg ev_int))))
  eb_nil))))
  (eb_frz (i := 3) (ow' := []) (frz_of rfl) (nmem_of rfl) (nmem_of rfl)
  (eb_cons (es_ret (ev_ty cd_tup rfl g.b_tuple (by decide +kernel) (ea_cons (ev_var (i := 3) (nmem_of rfl) rfl (Or.inr (Or.inl rfl))) ea_nil)))
  eb_nil))))
/-! fewest_pieces -/
abbrev N_fewest_pieces : List Str := ["lengths", "bound", "cover"]
abbrev ps_fewest_pieces : List Str := ["lengths", "bound"]
theorem sc_fewest_pieces : FnScope N_fewest_pieces ps_fewest_pieces (defScope (top 21)) := ⟨rfl, rfl, rfl, by decide +kernel, rfl, by decide +kernel, by decide +kernel⟩
def B_fewest_pieces : SS :=
  (bCons (sExpr (eCall m_need_bound (aCons (eVar 0) (aCons (eVar 1) aNil)))) (bCons (sSet 2 (eCall m_cover_in (aCons (eVar 0) (aCons (eVar 1) aNil)))) (bCons (sRet (eIf (tB (eBin (dIs true) (eVar 2) (eC .non))) (eBin dSub (eBlt bLen (aCons (eVar 2) aNil)) (eC (.int 1))) (eC .non))) bNil)))
def m_fewest_pieces : FS := ⟨ps_fewest_pieces.length, [], runB N_fewest_pieces.length ps_fewest_pieces.length [] B_fewest_pieces⟩
@[simp] theorem np_fewest_pieces : m_fewest_pieces.np = 2 := nr rfl
theorem me_fewest_pieces (ds : List D) : m_fewest_pieces.m ds = runB 3 2 [] B_fewest_pieces ds := nr rfl
theorem c_fewest_pieces (g : G K mg) : CalF P w K mg base (S0 K) 5 "fewest_pieces" m_fewest_pieces := by
  obtain ⟨fd, F⟩ := g.f_fewest_pieces
  refine cal_of (fn_ev (ow := []) (bor := []) (B := B_fewest_pieces) (fun_of F) sc_fewest_pieces (all_in rfl) (hbl_of rfl) (ho_of rfl) fun cdv A outer s H E hr tk => ?_) g.g_fewest_pieces F.kp (F.bindsN fun _ _ _ _ _ _ us hl => match us, hl with | [_, _], _ => rfl)
  exact (eb_cons (es_expr (ev_call tk (c_need_bound g) same0 rfl hr (by decide) rfl (ea_cons (ev_var (i := 0) (nmem_of rfl) rfl (Or.inl rfl)) (ea_cons (ev_var (i := 1) (nmem_of rfl) rfl (Or.inl rfl)) ea_nil))))
  (eb_cons (es_set (i := 2) (nmem_of rfl) (nmem_of rfl) sc_fewest_pieces.nd rfl (Or.inl rfl) (ev_call tk (c_cover_in g) same0 rfl hr (by decide) rfl (ea_cons (ev_var (i := 0) (nmem_of rfl) rfl (Or.inl rfl)) (ea_cons (ev_var (i := 1) (nmem_of rfl) rfl (Or.inl rfl)) ea_nil))))
  (eb_cons (es_ret (ev_if (et_cmp od_isNot (ev_var (i := 2) (nmem_of rfl) rfl (Or.inl rfl)) ev_non rfl) (ev_bin od_sub (ev_blt cd_len rfl g.b_len (by decide +kernel) (ea_cons (ev_var (i := 2) (nmem_of rfl) rfl (Or.inl rfl)) ea_nil)) ev_int) ev_non))
  eb_nil)))
/-! yard_cover -/
abbrev N_yard_cover : List Str := ["lengths", "bound"]
abbrev ps_yard_cover : List Str := ["lengths", "bound"]
theorem sc_yard_cover : FnScope N_yard_cover ps_yard_cover (defScope (top 22)) := ⟨rfl, rfl, rfl, by decide +kernel, rfl, by decide +kernel, by decide +kernel⟩
def B_yard_cover : SS :=
  (bCons (sExpr (eCall m_need_bound (aCons (eVar 0) (aCons (eVar 1) aNil)))) (bCons (sRet (eCall m_cover_in (aCons (eVar 0) (aCons (eVar 1) aNil)))) bNil))
def m_yard_cover : FS := ⟨ps_yard_cover.length, [], runB N_yard_cover.length ps_yard_cover.length [] B_yard_cover⟩
@[simp] theorem np_yard_cover : m_yard_cover.np = 2 := nr rfl
theorem me_yard_cover (ds : List D) : m_yard_cover.m ds = runB 2 2 [] B_yard_cover ds := nr rfl
theorem c_yard_cover (g : G K mg) : CalF P w K mg base (S0 K) 5 "yard_cover" m_yard_cover := by
  obtain ⟨fd, F⟩ := g.f_yard_cover
  refine cal_of (fn_ev (ow := []) (bor := []) (B := B_yard_cover) (fun_of F) sc_yard_cover (all_in rfl) (hbl_of rfl) (ho_of rfl) fun cdv A outer s H E hr tk => ?_) g.g_yard_cover F.kp (F.bindsN fun _ _ _ _ _ _ us hl => match us, hl with | [_, _], _ => rfl)
  exact (eb_cons (es_expr (ev_call tk (c_need_bound g) same0 rfl hr (by decide) rfl (ea_cons (ev_var (i := 0) (nmem_of rfl) rfl (Or.inl rfl)) (ea_cons (ev_var (i := 1) (nmem_of rfl) rfl (Or.inl rfl)) ea_nil))))
  (eb_cons (es_ret (ev_call tk (c_cover_in g) same0 rfl hr (by decide) rfl (ea_cons (ev_var (i := 0) (nmem_of rfl) rfl (Or.inl rfl)) (ea_cons (ev_var (i := 1) (nmem_of rfl) rfl (Or.inl rfl)) ea_nil))))
  eb_nil))
/-! is_rising -/
abbrev N_is_rising : List Str := ["things", "one", "other"]
abbrev ps_is_rising : List Str := ["things"]
theorem sc_is_rising : FnScope N_is_rising ps_is_rising (defScope (top 7)) := ⟨rfl, rfl, rfl, by decide +kernel, rfl, by decide +kernel, by decide +kernel⟩
def B_is_rising : SS :=
  (bCons (sRet (eBlt bAll (aCons (eF (fLc [1, 2] (iRng zip2 (aCons (eVar 0) (aCons (eSl (eVar 0) (pSome (eC (.int 1))) pNone) aNil))) (gTupD 2 (gsCons (gNm 1) (gsCons (gNm 2) gsNil))) cYes (eBin dLT (eVar 1) (eVar 2)))) aNil))) bNil)
def m_is_rising : FS := ⟨ps_is_rising.length, [], runB N_is_rising.length ps_is_rising.length [] B_is_rising⟩
@[simp] theorem np_is_rising : m_is_rising.np = 1 := nr rfl
theorem me_is_rising (ds : List D) : m_is_rising.m ds = runB 3 1 [] B_is_rising ds := nr rfl
theorem c_is_rising (g : G K mg) : CalF P w K mg base (S0 K) 1 "is_rising" m_is_rising := by
  obtain ⟨fd, F⟩ := g.f_is_rising
  refine cal_of (fn_ev (ow := []) (bor := []) (B := B_is_rising) (fun_of F) sc_is_rising (all_in rfl) (hbl_of rfl) (ho_of rfl) fun cdv A outer s H E hr tk => ?_) g.g_is_rising F.kp (F.bindsN fun _ _ _ _ _ _ us hl => match us, hl with | [_], _ => rfl)
  exact (eb_cons (es_ret (ev_blt (cd_all rfl) rfl g.b_all (by decide +kernel) (ea_cons (ev_f (ef_lc (own := [("one", 1), ("other", 2)]) rfl sc_is_rising.nd (all_not rfl) (all_not rfl) (all_in rfl) (ei_zip rfl g.b_zip (ea_cons (ev_var (i := 0) (nmem_of rfl) rfl (Or.inl rfl)) (ea_cons (ev_slice (ev_var (i := 0) (nmem_of rfl) rfl (Or.inl rfl)) (ep_some ev_int) ep_none) ea_nil))) (blkOk_by (by rfl)) (fun _ _ _ _ _ => (eg_tup rfl (egs_cons (eg_nm (i := 1) (nmem_of rfl) (nmem_of rfl) sc_is_rising.nd rfl (Or.inl rfl)) (egs_cons (eg_nm (i := 2) (nmem_of rfl) (nmem_of rfl) sc_is_rising.nd rfl (Or.inl rfl)) egs_nil)))) (fun _ _ _ _ _ => (ev_cmp (od_LT (hu64 hr)) (ev_var (i := 1) (nmem_of rfl) rfl (Or.inl rfl)) (ev_var (i := 2) (nmem_of rfl) rfl (Or.inl rfl)) rfl)))) ea_nil)))
  eb_nil)
/-! is_yard_cover -/
abbrev N_is_yard_cover : List Str := ["lengths", "bound", "value", "sums", "start", "end", "one"]
abbrev ps_is_yard_cover : List Str := ["lengths", "bound", "value"]
theorem sc_is_yard_cover : FnScope N_is_yard_cover ps_is_yard_cover (defScope (top 23)) := ⟨rfl, rfl, rfl, by decide +kernel, rfl, by decide +kernel, by decide +kernel⟩
def B_is_yard_cover : SS :=
  (bCons (sExpr (eCall m_need_bound (aCons (eVar 0) (aCons (eVar 1) aNil)))) (bCons (sIf (tOr (tNot (tTru (eCall m_is_tuple_of (aCons (eVar 2) (aCons (eC (.int 2)) (aCons (eBin dAdd (eBin dAt (eVar 0) (eC (.int 0))) (eC (.int 1))) aNil)))))) (tNot (tTru (eBlt bAll (aCons (eF (fLc [6] (iSeq (eVar 2)) (gNm 6) cYes (eCall m_is_whole (aCons (eVar 6) (aCons (eC (.int 0)) (aCons (eBin dAt (eVar 0) (eC (.int 0))) aNil)))))) aNil))))) (bCons (sRet (eC (.bl false))) bNil) bNil) (bCons (sIf (tOr (tB (eBin dNeA (eBin dAt (eVar 2) (eC (.int 0))) (eC (.int 0)))) (tOr (tB (eBin dNeA (eBin dAt (eVar 2) (eUn dNeg (eC (.int 1)))) (eBin dAt (eVar 0) (eC (.int 0))))) (tNot (tTru (eCall m_is_rising (aCons (eVar 2) aNil)))))) (bCons (sRet (eC (.bl false))) bNil) bNil) (bCons (sSet 3 (eCall m_sums_of (aCons (eVar 0) aNil))) (bCons (sRet (eBlt bAll (aCons (eF (fLc [4, 5] (iRng zip2 (aCons (eVar 2) (aCons (eSl (eVar 2) (pSome (eC (.int 1))) pNone) aNil))) (gTupD 2 (gsCons (gNm 4) (gsCons (gNm 5) gsNil))) cYes (eCall m_is_good (aCons (eVar 3) (aCons (eVar 1) (aCons (eVar 4) (aCons (eVar 5) aNil))))))) aNil))) bNil)))))
def m_is_yard_cover : FS := ⟨ps_is_yard_cover.length, [], runB N_is_yard_cover.length ps_is_yard_cover.length [] B_is_yard_cover⟩
@[simp] theorem np_is_yard_cover : m_is_yard_cover.np = 3 := nr rfl
theorem me_is_yard_cover (ds : List D) : m_is_yard_cover.m ds = runB 7 3 [] B_is_yard_cover ds := nr rfl
theorem c_is_yard_cover (g : G K mg) : CalF P w K mg base (S0 K) 5 "is_yard_cover" m_is_yard_cover := by
  obtain ⟨fd, F⟩ := g.f_is_yard_cover
  refine cal_of (fn_ev (ow := []) (bor := []) (B := B_is_yard_cover) (fun_of F) sc_is_yard_cover (all_in rfl) (hbl_of rfl) (ho_of rfl) fun cdv A outer s H E hr tk => ?_) g.g_is_yard_cover F.kp (F.bindsN fun _ _ _ _ _ _ us hl => match us, hl with | [_, _, _], _ => rfl)
  exact (eb_cons (es_expr (ev_call tk (c_need_bound g) same0 rfl hr (by decide) rfl (ea_cons (ev_var (i := 0) (nmem_of rfl) rfl (Or.inr (Or.inl rfl))) (ea_cons (ev_var (i := 1) (nmem_of rfl) rfl (Or.inr (Or.inl rfl))) ea_nil))))
  (eb_cons (es_if (EvW.t (ew_or (et_not (et_truth (ev_call tk (c_is_tuple_of g) same0 rfl hr (by decide) rfl (ea_cons (ev_var (i := 2) (nmem_of rfl) rfl (Or.inl rfl)) (ea_cons ev_int (ea_cons (ev_bin od_add (ev_ix (fun _ _ => rfl) (ix_allD (hu1 hr)) (ev_var (i := 0) (nmem_of rfl) rfl (Or.inr (Or.inl rfl))) ev_int) ev_int) ea_nil)))) (fun _ => rfl))) (ew_or1 (et_not (et_truth (ev_blt (cd_all rfl) rfl g.b_all (by decide +kernel) (ea_cons (ev_f (ef_lc (own := [("one", 6)]) rfl sc_is_yard_cover.nd (all_not rfl) (all_not rfl) (all_in rfl) (ei_seq (ev_var (i := 2) (nmem_of rfl) rfl (Or.inl rfl))) (blkOk_by (by rfl)) (fun _ _ _ _ _ => (eg_nm (i := 6) (nmem_of rfl) (nmem_of rfl) sc_is_yard_cover.nd rfl (Or.inl rfl))) (fun _ _ _ _ _ => (ev_call takes0 (c_is_whole g) same0 rfl hr (by decide) rfl (ea_cons (ev_var (i := 6) (nmem_of rfl) rfl (Or.inl rfl)) (ea_cons ev_int (ea_cons (ev_ix (fun _ _ => rfl) (ix_allD (hu1 hr)) (ev_var (i := 0) (nmem_of rfl) rfl (Or.inr (Or.inl rfl))) ev_int) ea_nil))))))) ea_nil)) (fun _ => rfl)))))) (eb_cons (es_ret ev_bl)
  eb_nil) eb_nil)
  (eb_cons (es_if (EvW.t (ew_or (et_cmp (od_neA (hu64 hr)) (ev_ix (fun _ _ => rfl) (ix_allD (hu1 hr)) (ev_var (i := 2) (nmem_of rfl) rfl (Or.inl rfl)) ev_int) ev_int rfl) (ew_or (et_cmp (od_neA (hu64 hr)) (ev_ix (fun _ _ => rfl) (ix_allD (hu1 hr)) (ev_var (i := 2) (nmem_of rfl) rfl (Or.inl rfl)) (ev_un ud_neg ev_int)) (ev_ix (fun _ _ => rfl) (ix_allD (hu1 hr)) (ev_var (i := 0) (nmem_of rfl) rfl (Or.inr (Or.inl rfl))) ev_int) rfl) (ew_or1 (et_not (et_truth (ev_call tk (c_is_rising g) same0 rfl hr (by decide) rfl (ea_cons (ev_var (i := 2) (nmem_of rfl) rfl (Or.inl rfl)) ea_nil)) (fun _ => rfl))))))) (eb_cons (es_ret ev_bl)
  eb_nil) eb_nil)
  (eb_cons (es_set (i := 3) (nmem_of rfl) (nmem_of rfl) sc_is_yard_cover.nd rfl (Or.inr rfl) (ev_call tk (c_sums_of g) same0 rfl hr (by decide) rfl (ea_cons (ev_var (i := 0) (nmem_of rfl) rfl (Or.inr (Or.inl rfl))) ea_nil)))
  (eb_cons (es_ret (ev_blt (cd_all rfl) rfl g.b_all (by decide +kernel) (ea_cons (ev_f (ef_lc (own := [("start", 4), ("end", 5)]) rfl sc_is_yard_cover.nd (all_not rfl) (all_not rfl) (all_in rfl) (ei_zip rfl g.b_zip (ea_cons (ev_var (i := 2) (nmem_of rfl) rfl (Or.inl rfl)) (ea_cons (ev_slice (ev_var (i := 2) (nmem_of rfl) rfl (Or.inl rfl)) (ep_some ev_int) ep_none) ea_nil))) (blkOk_by (by rfl)) (fun _ _ _ _ _ => (eg_tup rfl (egs_cons (eg_nm (i := 4) (nmem_of rfl) (nmem_of rfl) sc_is_yard_cover.nd rfl (Or.inl rfl)) (egs_cons (eg_nm (i := 5) (nmem_of rfl) (nmem_of rfl) sc_is_yard_cover.nd rfl (Or.inl rfl)) egs_nil)))) (fun _ _ _ _ _ => (ev_call takes0 (c_is_good g) same0 rfl hr (by decide) rfl (ea_cons (ev_var (i := 3) (nmem_of rfl) rfl (Or.inr (Or.inl rfl))) (ea_cons (ev_var (i := 1) (nmem_of rfl) rfl (Or.inr (Or.inl rfl))) (ea_cons (ev_var (i := 4) (nmem_of rfl) rfl (Or.inl rfl)) (ea_cons (ev_var (i := 5) (nmem_of rfl) rfl (Or.inl rfl)) ea_nil)))))))) ea_nil)))
  eb_nil)))))
/-! _law_roll -/
abbrev N__law_roll : List Str := ["cup", "many", "found", "deep"]
abbrev ps__law_roll : List Str := ["cup", "many"]
theorem sc__law_roll : FnScope N__law_roll ps__law_roll (defScope (top 27)) := ⟨rfl, rfl, rfl, by decide +kernel, rfl, by decide +kernel, by decide +kernel⟩
def B__law_roll : SS :=
  (bCons (sIf (tB (eBin dGT (eBin dAt (ePlc 0) (eC (.int 0))) (eC (.int 0)))) (bCons (sSet 2 (eBin dMod (eBlt bInt (aCons (eBin dAt (ePlc 0) (eC (.int 0))) aNil)) (eVar 1))) (bCons (sStL (eBin dDiv (eBin dAt (ePlc 0) (eC (.int 0))) (eVar 1)) (ePlc 0) (eC (.int 0))) (bCons (sRet (eVar 2)) bNil))) bNil) (bCons (sStL (eBin dMod (eBlt bInt (aCons (eBin dAdd (eBin dMul (eBin dAt (ePlc 0) (eC (.int 1))) (eC (.int 31051))) (eC (.int 7993))) aNil)) (eC (.int 2147483543))) (ePlc 0) (eC (.int 1))) (bCons (sSet 3 (eBin dMod (eBlt bInt (aCons (eBin dMul (eBin dAt (ePlc 0) (eC (.int 1))) (eBin dAdd (eBin dAt (ePlc 0) (eC (.int 1))) (eC (.int 229)))) aNil)) (eC (.int 2147483587)))) (bCons (sRet (eBin dMod (eBlt bInt (aCons (eBin dDiv (eVar 3) (eC (.int 821))) aNil)) (eVar 1))) bNil))))
def m__law_roll : FS := ⟨ps__law_roll.length, [0], runB N__law_roll.length ps__law_roll.length [0] B__law_roll⟩
@[simp] theorem np__law_roll : m__law_roll.np = 2 := nr rfl
theorem me__law_roll (ds : List D) : m__law_roll.m ds = runB 4 2 [0] B__law_roll ds := nr rfl
theorem c__law_roll (g : G K mg) : CalF P w K mg base (S0 K) 1 "_law_roll" m__law_roll := by
  obtain ⟨fd, F⟩ := g.f__law_roll
  refine cal_of (fn_ev (ow := [0]) (bor := [0]) (B := B__law_roll) (fun_of F) sc__law_roll (all_in rfl) (hbl_of rfl) (ho_of rfl) fun cdv A outer s H E hr tk => ?_) g.g__law_roll F.kp (F.bindsN fun _ _ _ _ _ _ us hl => match us, hl with | [_, _], _ => rfl)
  exact (eb_cons (es_if (et_cmp (od_GT (hu64 hr)) (ev_ix (fun _ _ => rfl) (ix_allD (hu1 hr)) (ev_plc (i := 0) (mem_of rfl) rfl (Or.inl rfl)) ev_int) ev_int rfl) (eb_cons (es_set (i := 2) (nmem_of rfl) (nmem_of rfl) sc__law_roll.nd rfl (Or.inl rfl) (ev_bin od_mod (ev_ty cd_int rfl g.b_int (by decide +kernel) (ea_cons (ev_ix (fun _ _ => rfl) (ix_allD (hu1 hr)) (ev_plc (i := 0) (mem_of rfl) rfl (Or.inl rfl)) ev_int) ea_nil)) (ev_var (i := 1) (nmem_of rfl) rfl (Or.inl rfl))))
  (eb_cons (es_stL (ev_bin od_div (ev_ix (fun _ _ => rfl) (ix_allD (hu1 hr)) (ev_plc (i := 0) (mem_of rfl) rfl (Or.inl rfl)) ev_int) (ev_var (i := 1) (nmem_of rfl) rfl (Or.inl rfl))) (ev_plc (i := 0) (mem_of rfl) rfl (Or.inl rfl)) ev_int)
  (eb_cons (es_ret (ev_var (i := 2) (nmem_of rfl) rfl (Or.inl rfl)))
  eb_nil))) eb_nil)
  (eb_cons (es_stL (ev_bin od_mod (ev_ty cd_int rfl g.b_int (by decide +kernel) (ea_cons (ev_bin od_add (ev_bin od_mul (ev_ix (fun _ _ => rfl) (ix_allD (hu1 hr)) (ev_plc (i := 0) (mem_of rfl) rfl (Or.inl rfl)) ev_int) ev_int) ev_int) ea_nil)) ev_int) (ev_plc (i := 0) (mem_of rfl) rfl (Or.inl rfl)) ev_int)
  (eb_cons (es_set (i := 3) (nmem_of rfl) (nmem_of rfl) sc__law_roll.nd rfl (Or.inl rfl) (ev_bin od_mod (ev_ty cd_int rfl g.b_int (by decide +kernel) (ea_cons (ev_bin od_mul (ev_ix (fun _ _ => rfl) (ix_allD (hu1 hr)) (ev_plc (i := 0) (mem_of rfl) rfl (Or.inl rfl)) ev_int) (ev_bin od_add (ev_ix (fun _ _ => rfl) (ix_allD (hu1 hr)) (ev_plc (i := 0) (mem_of rfl) rfl (Or.inl rfl)) ev_int) ev_int)) ea_nil)) ev_int))
  (eb_cons (es_ret (ev_bin od_mod (ev_ty cd_int rfl g.b_int (by decide +kernel) (ea_cons (ev_bin od_div (ev_var (i := 3) (nmem_of rfl) rfl (Or.inl rfl)) ev_int) ea_nil)) (ev_var (i := 1) (nmem_of rfl) rfl (Or.inl rfl))))
  eb_nil))))
/-! _law_some -/
abbrev N__law_some : List Str := ["cup", "things"]
abbrev ps__law_some : List Str := ["cup", "things"]
theorem sc__law_some : FnScope N__law_some ps__law_some (defScope (top 28)) := ⟨rfl, rfl, rfl, by decide +kernel, rfl, by decide +kernel, by decide +kernel⟩
def B__law_some : SS :=
  (bCons (sRet (eBin dAt (eVar 1) (eCallC m__law_roll (aCons (ePlc 0) (aCons (eBlt bLen (aCons (eVar 1) aNil)) aNil))))) bNil)
def m__law_some : FS := ⟨ps__law_some.length, [0], runB N__law_some.length ps__law_some.length [0] B__law_some⟩
@[simp] theorem np__law_some : m__law_some.np = 2 := nr rfl
theorem me__law_some (ds : List D) : m__law_some.m ds = runB 2 2 [0] B__law_some ds := nr rfl
theorem c__law_some (g : G K mg) : CalF P w K mg base (S0 K) 2 "_law_some" m__law_some := by
  obtain ⟨fd, F⟩ := g.f__law_some
  refine cal_of (fn_ev (ow := [0]) (bor := [0]) (B := B__law_some) (fun_of F) sc__law_some (all_in rfl) (hbl_of rfl) (ho_of rfl) fun cdv A outer s H E hr tk => ?_) g.g__law_some F.kp (F.bindsN fun _ _ _ _ _ _ us hl => match us, hl with | [_, _], _ => rfl)
  exact (eb_cons (es_ret (ev_ix (fun _ _ => rfl) (ix_allD (hu1 hr)) (ev_var (i := 1) (nmem_of rfl) rfl (Or.inl rfl)) (ev_callC tk (c__law_roll g) same0 rfl hr (by decide) rfl (ea_cons (ev_plc (i := 0) (mem_of rfl) rfl (Or.inl rfl)) (ea_cons (ev_blt cd_len rfl g.b_len (by decide +kernel) (ea_cons (ev_var (i := 1) (nmem_of rfl) rfl (Or.inl rfl)) ea_nil)) ea_nil)))))
  eb_nil)
/-! _law_lengths -/
abbrev N__law_lengths : List Str := ["cup", "most", "length", "yards", "turn", "yard", "other"]
abbrev ps__law_lengths : List Str := ["cup", "most"]
theorem sc__law_lengths : FnScope N__law_lengths ps__law_lengths (defScope (top 32)) := ⟨rfl, rfl, rfl, by decide +kernel, rfl, by decide +kernel, by decide +kernel⟩
def B__law_lengths : SS :=
  (bCons (sPar [(2, false), (3, true)] (qVal (eBin dAdd (eC (.int 1)) (eCallC m__law_roll (aCons (ePlc 0) (aCons (eVar 1) aNil)))) (qNew (fLst aNil) qNil))) (bCons (sFor (iRng rng1 (aCons (eCallC m__law_some (aCons (ePlc 0) (aCons (eF (fLst (aCons (eC (.int 0)) (aCons (eC (.int 1)) (aCons (eC (.int 3)) (aCons (eCallC m__law_roll (aCons (ePlc 0) (aCons (eC (.int 12)) aNil))) (aCons (eCallC m__law_roll (aCons (ePlc 0) (aCons (eC (.int 20)) aNil))) aNil))))))) aNil))) aNil)) (gNm 4) (bCons (sSet 5 (eIf (tAnd (tB (eBin dNeA (ePlc 3) (eF (fLst aNil)))) (tB (eBin dEqA (eCallC m__law_roll (aCons (ePlc 0) (aCons (eC (.int 3)) aNil))) (eC (.int 0))))) (eCallC m__law_some (aCons (ePlc 0) (aCons (ePlc 3) aNil))) (eCallC m__law_roll (aCons (ePlc 0) (aCons (eVar 2) aNil))))) (bCons (sIf (tB (eBin dLT (eBlt bLen (aCons (eF (fPure [0] (fLc [6] (iSeq (eVar 3)) (gNm 6) (tB (eBin dEqA (eVar 6) (eVar 5))) (eVar 6)))) aNil)) (eC (.int 3)))) (bCons (sExpr (eApp (ePlc 3) (eVar 5))) bNil) bNil) bNil))) (bFrz 3 (bCons (sRet (eTup (aCons (eVar 2) (aCons (eBlt bTup (aCons (eF (fBlt bSortA (aCons (eVar 3) aNil))) aNil)) aNil)))) bNil))))
def m__law_lengths : FS := ⟨ps__law_lengths.length, [0], runB N__law_lengths.length ps__law_lengths.length [0] B__law_lengths⟩
@[simp] theorem np__law_lengths : m__law_lengths.np = 2 := nr rfl
theorem me__law_lengths (ds : List D) : m__law_lengths.m ds = runB 7 2 [0] B__law_lengths ds := nr rfl
theorem c__law_lengths (g : G K mg) : CalF P w K mg base (S0 K) 3 "_law_lengths" m__law_lengths := by
  obtain ⟨fd, F⟩ := g.f__law_lengths
  refine cal_of (fn_ev (ow := [0, 3]) (bor := [0]) (B := B__law_lengths) (fun_of F) sc__law_lengths (all_in rfl) (hbl_of rfl) (ho_of rfl) fun cdv A outer s H E hr tk => ?_) g.g__law_lengths F.kp (F.bindsN fun _ _ _ _ _ _ us hl => match us, hl with | [_, _], _ => rfl)
  exact (eb_cons (es_par2 (okT_of rfl) rfl sc__law_lengths.nd rfl rfl (by decide) rfl rfl (eq_val (ev_bin od_add ev_int (ev_callC tk (c__law_roll g) same0 rfl hr (by decide) rfl (ea_cons (ev_plc (i := 0) (mem_of rfl) rfl (Or.inl rfl)) (ea_cons (ev_var (i := 1) (nmem_of rfl) rfl (Or.inl rfl)) ea_nil)))) (eq_new (ef_lst ea_nil) eq_nil)) (by rfl))
  (eb_cons (es_for (passes_of rfl) rfl (ei_range1 rfl g.b_range (ea_cons (ev_callC tk (c__law_some g) same0 rfl hr (by decide) rfl (ea_cons (ev_plc (i := 0) (mem_of rfl) rfl (Or.inl rfl)) (ea_cons (ev_f (ef_lst (ea_cons ev_int (ea_cons ev_int (ea_cons ev_int (ea_cons (ev_callC tk (c__law_roll g) same0 rfl hr (by decide) rfl (ea_cons (ev_plc (i := 0) (mem_of rfl) rfl (Or.inl rfl)) (ea_cons ev_int ea_nil))) (ea_cons (ev_callC tk (c__law_roll g) same0 rfl hr (by decide) rfl (ea_cons (ev_plc (i := 0) (mem_of rfl) rfl (Or.inl rfl)) (ea_cons ev_int ea_nil))) ea_nil))))))) ea_nil))) ea_nil)) (eg_nm (i := 4) (nmem_of rfl) (nmem_of rfl) sc__law_lengths.nd rfl (Or.inl rfl)) (eb_cons (es_set (i := 5) (nmem_of rfl) (nmem_of rfl) sc__law_lengths.nd rfl (Or.inr rfl) (ev_if (EvW.t (ew_and (et_cmp (od_neA (hu64 hr)) (ev_plc (i := 3) (mem_of rfl) rfl (Or.inl rfl)) (ev_f (ef_lst ea_nil)) rfl) (ew_and1 (et_cmp (od_eqA (hu64 hr)) (ev_callC tk (c__law_roll g) same0 rfl hr (by decide) rfl (ea_cons (ev_plc (i := 0) (mem_of rfl) rfl (Or.inl rfl)) (ea_cons ev_int ea_nil))) ev_int rfl)))) (ev_callC tk (c__law_some g) same0 rfl hr (by decide) rfl (ea_cons (ev_plc (i := 0) (mem_of rfl) rfl (Or.inl rfl)) (ea_cons (ev_plc (i := 3) (mem_of rfl) rfl (Or.inl rfl)) ea_nil))) (ev_callC tk (c__law_roll g) same0 rfl hr (by decide) rfl (ea_cons (ev_plc (i := 0) (mem_of rfl) rfl (Or.inl rfl)) (ea_cons (ev_var (i := 2) (nmem_of rfl) rfl (Or.inl rfl)) ea_nil)))))
  (eb_cons (es_if (et_cmp (od_LT (hu64 hr)) (ev_blt cd_len rfl g.b_len (by decide +kernel) (ea_cons (ev_f (ef_pure rfl (ef_lcIf (own := [("other", 6)]) rfl sc__law_lengths.nd (all_not rfl) (all_not rfl) (all_in rfl) (ei_seq (ev_var (i := 3) (nmem_of rfl) rfl (Or.inl rfl))) (blkOk_by (by rfl)) (fun _ _ _ _ _ => (eg_nm (i := 6) (nmem_of rfl) (nmem_of rfl) sc__law_lengths.nd rfl (Or.inl rfl))) (fun _ _ _ _ _ => (et_cmp (od_eqA (hu64 hr)) (ev_var (i := 6) (nmem_of rfl) rfl (Or.inl rfl)) (ev_var (i := 5) (nmem_of rfl) rfl (Or.inr (Or.inl rfl))) rfl)) (fun _ _ _ _ _ => (ev_var (i := 6) (nmem_of rfl) rfl (Or.inl rfl)))))) ea_nil)) ev_int rfl) (eb_cons (es_expr (ev_app (ev_plc (i := 3) (mem_of rfl) rfl (Or.inl rfl)) (ev_var (i := 5) (nmem_of rfl) rfl (Or.inr (Or.inl rfl)))))
  eb_nil) eb_nil)
  eb_nil)))
  (eb_frz (i := 3) (ow' := [0]) (frz_of rfl) (nmem_of rfl) (nmem_of rfl)
  (eb_cons (es_ret (ev_tup (ea_cons (ev_var (i := 2) (nmem_of rfl) rfl (Or.inl rfl)) (ea_cons (ev_ty cd_tup rfl g.b_tuple (by decide +kernel) (ea_cons (ev_f (ef_blt cf_sortA rfl g.b_sorted (by decide +kernel) (ea_cons (ev_var (i := 3) (nmem_of rfl) rfl (Or.inl rfl)) ea_nil))) ea_nil)) ea_nil))))
  eb_nil))))
/-! longest_good -/
abbrev N_longest_good : List Str := ["lengths", "bound", "sums", "best", "start", "end"]
abbrev ps_longest_good : List Str := ["lengths", "bound"]
theorem sc_longest_good : FnScope N_longest_good ps_longest_good (defScope (top 24)) := ⟨rfl, rfl, rfl, by decide +kernel, rfl, by decide +kernel, by decide +kernel⟩
def B_longest_good : SS :=
  (bCons (sExpr (eCall m_need_bound (aCons (eVar 0) (aCons (eVar 1) aNil)))) (bCons (sPar [(2, false), (3, false)] (qVal (eCall m_sums_of (aCons (eVar 0) aNil)) (qVal (eC .non) qNil))) (bCons (sFor (iRng rng1 (aCons (eBin dAt (eVar 0) (eC (.int 0))) aNil)) (gNm 4) (bCons (sFor (iRng rng2 (aCons (eBin dAdd (eVar 4) (eC (.int 1))) (aCons (eBin dAdd (eBin dAt (eVar 0) (eC (.int 0))) (eC (.int 1))) aNil))) (gNm 5) (bCons (sIf (tAnd (tTru (eCall m_is_good (aCons (eVar 2) (aCons (eVar 1) (aCons (eVar 4) (aCons (eVar 5) aNil)))))) (tOr (tB (eBin (dIs false) (eVar 3) (eC .non))) (tB (eBin dGT (eBin dSub (eVar 5) (eVar 4)) (eBin dSub (eBin dAt (eVar 3) (eC (.int 1))) (eBin dAt (eVar 3) (eC (.int 0)))))))) (bCons (sSet 3 (eTup (aCons (eVar 4) (aCons (eVar 5) aNil)))) bNil) bNil) bNil)) bNil)) (bCons (sRet (eVar 3)) bNil))))
def m_longest_good : FS := ⟨ps_longest_good.length, [], runB N_longest_good.length ps_longest_good.length [] B_longest_good⟩
@[simp] theorem np_longest_good : m_longest_good.np = 2 := nr rfl
theorem me_longest_good (ds : List D) : m_longest_good.m ds = runB 6 2 [] B_longest_good ds := nr rfl
theorem c_longest_good (g : G K mg) : CalF P w K mg base (S0 K) 5 "longest_good" m_longest_good := by
  obtain ⟨fd, F⟩ := g.f_longest_good
  refine cal_of (fn_ev (ow := []) (bor := []) (B := B_longest_good) (fun_of F) sc_longest_good (all_in rfl) (hbl_of rfl) (ho_of rfl) fun cdv A outer s H E hr tk => ?_) g.g_longest_good F.kp (F.bindsN fun _ _ _ _ _ _ us hl => match us, hl with | [_, _], _ => rfl)
  exact (eb_cons (es_expr (ev_call tk (c_need_bound g) same0 rfl hr (by decide) rfl (ea_cons (ev_var (i := 0) (nmem_of rfl) rfl (Or.inl rfl)) (ea_cons (ev_var (i := 1) (nmem_of rfl) rfl (Or.inl rfl)) ea_nil))))
  (eb_cons (es_par2 (okT_of rfl) rfl sc_longest_good.nd rfl rfl (by decide) rfl rfl (eq_val (ev_call tk (c_sums_of g) same0 rfl hr (by decide) rfl (ea_cons (ev_var (i := 0) (nmem_of rfl) rfl (Or.inl rfl)) ea_nil)) (eq_val ev_non eq_nil)) (by rfl))
  (eb_cons (es_for (passes_of rfl) rfl (ei_range1 rfl g.b_range (ea_cons (ev_ix (fun _ _ => rfl) (ix_allD (hu1 hr)) (ev_var (i := 0) (nmem_of rfl) rfl (Or.inl rfl)) ev_int) ea_nil)) (eg_nm (i := 4) (nmem_of rfl) (nmem_of rfl) sc_longest_good.nd rfl (Or.inl rfl)) (eb_cons (es_for (passes_of rfl) rfl (ei_range2 rfl g.b_range (ea_cons (ev_bin od_add (ev_var (i := 4) (nmem_of rfl) rfl (Or.inl rfl)) ev_int) (ea_cons (ev_bin od_add (ev_ix (fun _ _ => rfl) (ix_allD (hu1 hr)) (ev_var (i := 0) (nmem_of rfl) rfl (Or.inl rfl)) ev_int) ev_int) ea_nil))) (eg_nm (i := 5) (nmem_of rfl) (nmem_of rfl) sc_longest_good.nd rfl (Or.inl rfl)) (eb_cons (es_if (EvW.t (ew_and (et_truth (ev_call tk (c_is_good g) same0 rfl hr (by decide) rfl (ea_cons (ev_var (i := 2) (nmem_of rfl) rfl (Or.inl rfl)) (ea_cons (ev_var (i := 1) (nmem_of rfl) rfl (Or.inl rfl)) (ea_cons (ev_var (i := 4) (nmem_of rfl) rfl (Or.inl rfl)) (ea_cons (ev_var (i := 5) (nmem_of rfl) rfl (Or.inl rfl)) ea_nil))))) (fun _ => rfl)) (ew_and1 (EvW.t (ew_or (et_cmp od_is (ev_var (i := 3) (nmem_of rfl) rfl (Or.inl rfl)) ev_non rfl) (ew_or1 (et_cmp (od_GT (hu64 hr)) (ev_bin od_sub (ev_var (i := 5) (nmem_of rfl) rfl (Or.inl rfl)) (ev_var (i := 4) (nmem_of rfl) rfl (Or.inl rfl))) (ev_bin od_sub (ev_ix (fun _ _ => rfl) (ix_allD (hu1 hr)) (ev_var (i := 3) (nmem_of rfl) rfl (Or.inl rfl)) ev_int) (ev_ix (fun _ _ => rfl) (ix_allD (hu1 hr)) (ev_var (i := 3) (nmem_of rfl) rfl (Or.inl rfl)) ev_int)) rfl))))))) (eb_cons (es_set (i := 3) (nmem_of rfl) (nmem_of rfl) sc_longest_good.nd rfl (Or.inl rfl) (ev_tup (ea_cons (ev_var (i := 4) (nmem_of rfl) rfl (Or.inl rfl)) (ea_cons (ev_var (i := 5) (nmem_of rfl) rfl (Or.inl rfl)) ea_nil))))
  eb_nil) eb_nil)
  eb_nil))
  eb_nil))
  (eb_cons (es_ret (ev_var (i := 3) (nmem_of rfl) rfl (Or.inl rfl)))
  eb_nil))))
/-! _law_faults -/
abbrev N__law_faults : List Str := ["lengths", "start", "end", "yard"]
abbrev ps__law_faults : List Str := ["lengths", "start", "end"]
theorem sc__law_faults : FnScope N__law_faults ps__law_faults (defScope (top 33)) := ⟨rfl, rfl, rfl, by decide +kernel, rfl, by decide +kernel, by decide +kernel⟩
def B__law_faults : SS :=
  (bCons (sRet (eBlt bLen (aCons (eF (fLc [3] (iSeq (eBin dAt (eVar 0) (eC (.int 1)))) (gNm 3) (tB (eChain dLE dLT (eVar 1) (eVar 3) (eVar 2))) (eVar 3))) aNil))) bNil)
def m__law_faults : FS := ⟨ps__law_faults.length, [], runB N__law_faults.length ps__law_faults.length [] B__law_faults⟩
@[simp] theorem np__law_faults : m__law_faults.np = 3 := nr rfl
theorem me__law_faults (ds : List D) : m__law_faults.m ds = runB 4 3 [] B__law_faults ds := nr rfl
theorem c__law_faults (g : G K mg) : CalF P w K mg base (S0 K) 1 "_law_faults" m__law_faults := by
  obtain ⟨fd, F⟩ := g.f__law_faults
  refine cal_of (fn_ev (ow := []) (bor := []) (B := B__law_faults) (fun_of F) sc__law_faults (all_in rfl) (hbl_of rfl) (ho_of rfl) fun cdv A outer s H E hr tk => ?_) g.g__law_faults F.kp (F.bindsN fun _ _ _ _ _ _ us hl => match us, hl with | [_, _, _], _ => rfl)
  exact (eb_cons (es_ret (ev_blt cd_len rfl g.b_len (by decide +kernel) (ea_cons (ev_f (ef_lcIf (own := [("yard", 3)]) rfl sc__law_faults.nd (all_not rfl) (all_not rfl) (all_in rfl) (ei_seq (ev_ix (fun _ _ => rfl) (ix_allD (hu1 hr)) (ev_var (i := 0) (nmem_of rfl) rfl (Or.inl rfl)) ev_int)) (blkOk_by (by rfl)) (fun _ _ _ _ _ => (eg_nm (i := 3) (nmem_of rfl) (nmem_of rfl) sc__law_faults.nd rfl (Or.inl rfl))) (fun _ _ _ _ _ => (et_chain (od_LE (hu64 hr)) (od_LT (hu64 hr)) (ev_var (i := 1) (nmem_of rfl) rfl (Or.inr (Or.inl rfl))) (ev_var (i := 3) (nmem_of rfl) rfl (Or.inl rfl)) (ev_var (i := 2) (nmem_of rfl) rfl (Or.inr (Or.inl rfl))))) (fun _ _ _ _ _ => (ev_var (i := 3) (nmem_of rfl) rfl (Or.inl rfl))))) ea_nil)))
  eb_nil)
/-! _law_fewest -/
abbrev N__law_fewest : List Str := ["lengths", "bound", "found", "end", "some", "start"]
abbrev ps__law_fewest : List Str := ["lengths", "bound"]
theorem sc__law_fewest : FnScope N__law_fewest ps__law_fewest (defScope (top 34)) := ⟨rfl, rfl, rfl, by decide +kernel, rfl, by decide +kernel, by decide +kernel⟩
def B__law_fewest : SS :=
  (bCons (sSetF 2 (fLst (aCons (eC (.int 0)) aNil))) (bCons (sFor (iRng rng2 (aCons (eC (.int 1)) (aCons (eBin dAdd (eBin dAt (eVar 0) (eC (.int 0))) (eC (.int 1))) aNil))) (gNm 3) (bCons (sSet 4 (eF (fLc [5] (iRng rng1 (aCons (eVar 3) aNil)) (gNm 5) (tAnd (tB (eBin (dIs true) (eBin dAt (ePlc 2) (eVar 5)) (eC .non))) (tB (eBin dLE (eCall m__law_faults (aCons (eVar 0) (aCons (eVar 5) (aCons (eVar 3) aNil)))) (eVar 1)))) (eBin dAdd (eBin dAt (ePlc 2) (eVar 5)) (eC (.int 1)))))) (bCons (sExpr (eApp (ePlc 2) (eIf (tB (eBin dNeA (eVar 4) (eF (fLst aNil)))) (eBlt bMin1 (aCons (eVar 4) aNil)) (eC .non)))) bNil))) (bFrz 2 (bCons (sRet (eBin dAt (eVar 2) (eUn dNeg (eC (.int 1))))) bNil))))
def m__law_fewest : FS := ⟨ps__law_fewest.length, [], runB N__law_fewest.length ps__law_fewest.length [] B__law_fewest⟩
@[simp] theorem np__law_fewest : m__law_fewest.np = 2 := nr rfl
theorem me__law_fewest (ds : List D) : m__law_fewest.m ds = runB 6 2 [] B__law_fewest ds := nr rfl
theorem c__law_fewest (g : G K mg) : CalF P w K mg base (S0 K) 2 "_law_fewest" m__law_fewest := by
  obtain ⟨fd, F⟩ := g.f__law_fewest
  refine cal_of (fn_ev (ow := [2]) (bor := []) (B := B__law_fewest) (fun_of F) sc__law_fewest (all_in rfl) (hbl_of rfl) (ho_of rfl) fun cdv A outer s H E hr tk => ?_) g.g__law_fewest F.kp (F.bindsN fun _ _ _ _ _ _ us hl => match us, hl with | [_, _], _ => rfl)
  exact (eb_cons (es_setF (i := 2) (mem_of rfl) (nmem_of rfl) sc__law_fewest.nd rfl (Or.inr rfl) (ef_lst (ea_cons ev_int ea_nil)))
  (eb_cons (es_for (passes_of rfl) rfl (ei_range2 rfl g.b_range (ea_cons ev_int (ea_cons (ev_bin od_add (ev_ix (fun _ _ => rfl) (ix_allD (hu1 hr)) (ev_var (i := 0) (nmem_of rfl) rfl (Or.inr (Or.inl rfl))) ev_int) ev_int) ea_nil))) (eg_nm (i := 3) (nmem_of rfl) (nmem_of rfl) sc__law_fewest.nd rfl (Or.inr rfl)) (eb_cons (es_setLc (lc_partsIf (own := [("start", 5)]) (i := 4) rfl sc__law_fewest.nd (all_not rfl) (all_not rfl) (all_in rfl) rfl rfl rfl rfl (by rfl) (ei_range1 rfl g.b_range (ea_cons (ev_var (i := 3) (nmem_of rfl) rfl (Or.inr (Or.inl rfl))) ea_nil)) (blkOk_by (by rfl)) (fun _ _ _ _ _ => (eg_nm (i := 5) (nmem_of rfl) (nmem_of rfl) sc__law_fewest.nd rfl (Or.inl rfl))) (fun _ _ _ _ _ => (EvW.t (ew_and (et_cmp od_isNot (ev_ix (fun _ _ => rfl) (ix_allD (hu1 hr)) (ev_plc (i := 2) (mem_of rfl) rfl (Or.inr (Or.inl rfl))) (ev_var (i := 5) (nmem_of rfl) rfl (Or.inl rfl))) ev_non rfl) (ew_and1 (et_cmp (od_LE (hu64 hr)) (ev_call takes0 (c__law_faults g) same0 rfl hr (by decide) rfl (ea_cons (ev_var (i := 0) (nmem_of rfl) rfl (Or.inr (Or.inl rfl))) (ea_cons (ev_var (i := 5) (nmem_of rfl) rfl (Or.inl rfl)) (ea_cons (ev_var (i := 3) (nmem_of rfl) rfl (Or.inr (Or.inl rfl))) ea_nil)))) (ev_var (i := 1) (nmem_of rfl) rfl (Or.inr (Or.inl rfl))) rfl))))) (fun _ _ _ _ _ => (ev_bin od_add (ev_ix (fun _ _ => rfl) (ix_allD (hu1 hr)) (ev_plc (i := 2) (mem_of rfl) rfl (Or.inr (Or.inl rfl))) (ev_var (i := 5) (nmem_of rfl) rfl (Or.inl rfl))) ev_int))) (nmem_of rfl) (nmem_of rfl))
  (eb_cons (es_expr (ev_app (ev_plc (i := 2) (mem_of rfl) rfl (Or.inr (Or.inl rfl))) (ev_if (et_cmp (od_neA (hu64 hr)) (ev_var (i := 4) (nmem_of rfl) rfl (Or.inl rfl)) (ev_f (ef_lst ea_nil)) rfl) (ev_blt (cd_min1 rfl (hu65 hr)) rfl g.b_min (by decide +kernel) (ea_cons (ev_var (i := 4) (nmem_of rfl) rfl (Or.inl rfl)) ea_nil)) ev_non)))
  eb_nil)))
  (eb_frz (i := 2) (ow' := []) (frz_of rfl) (nmem_of rfl) (nmem_of rfl)
  (eb_cons (es_ret (ev_ix (fun _ _ => rfl) (ix_allD (hu1 hr)) (ev_var (i := 2) (nmem_of rfl) rfl (Or.inr (Or.inl rfl))) (ev_un ud_neg ev_int)))
  eb_nil))))
/-! _law_greedy -/
abbrev N__law_greedy : List Str := ["lengths", "bound", "found", "here", "yard", "more", "one"]
abbrev ps__law_greedy : List Str := ["lengths", "bound"]
theorem sc__law_greedy : FnScope N__law_greedy ps__law_greedy (defScope (top 36)) := ⟨rfl, rfl, rfl, by decide +kernel, rfl, by decide +kernel, by decide +kernel⟩
def B__law_greedy : SS :=
  (bCons (sPar [(2, true), (3, false)] (qNew (fLst (aCons (eC (.int 0)) aNil)) (qVal (eC (.int 0)) qNil))) (bCons (sFor (iRng rng1 (aCons (eBin dAt (eVar 0) (eC (.int 0))) aNil)) (gNm 4) (bCons (sSet 5 (eBlt bLen (aCons (eF (fLc [6] (iSeq (eBin dAt (eVar 0) (eC (.int 1)))) (gNm 6) (tB (eBin dEqA (eVar 6) (eVar 4))) (eVar 6))) aNil))) (bCons (sIf (tB (eBin dGT (eVar 5) (eVar 1))) (bCons (sRet (eC .non)) bNil) bNil) (bCons (sIf (tB (eBin dGT (eBin dAdd (eVar 3) (eVar 5)) (eVar 1))) (bCons (sExpr (eApp (ePlc 2) (eVar 4))) (bCons (sSet 3 (eC (.int 0))) bNil)) bNil) (bCons (sSet 3 (eBin dAdd (eVar 3) (eVar 5))) bNil))))) (bFrz 2 (bCons (sRet (eBlt bTup (aCons (eBin dAdd (eVar 2) (eF (fLst (aCons (eBin dAt (eVar 0) (eC (.int 0))) aNil)))) aNil))) bNil))))
def m__law_greedy : FS := ⟨ps__law_greedy.length, [], runB N__law_greedy.length ps__law_greedy.length [] B__law_greedy⟩
@[simp] theorem np__law_greedy : m__law_greedy.np = 2 := nr rfl
theorem me__law_greedy (ds : List D) : m__law_greedy.m ds = runB 7 2 [] B__law_greedy ds := nr rfl
theorem c__law_greedy (g : G K mg) : CalF P w K mg base (S0 K) 1 "_law_greedy" m__law_greedy := by
  obtain ⟨fd, F⟩ := g.f__law_greedy
  refine cal_of (fn_ev (ow := [2]) (bor := []) (B := B__law_greedy) (fun_of F) sc__law_greedy (all_in rfl) (hbl_of rfl) (ho_of rfl) fun cdv A outer s H E hr tk => ?_) g.g__law_greedy F.kp (F.bindsN fun _ _ _ _ _ _ us hl => match us, hl with | [_, _], _ => rfl)
  exact (eb_cons (es_par2 (okT_of rfl) rfl sc__law_greedy.nd rfl rfl (by decide) rfl rfl (eq_new (ef_lst (ea_cons ev_int ea_nil)) (eq_val ev_int eq_nil)) (by rfl))
  (eb_cons (es_for (passes_of rfl) rfl (ei_range1 rfl g.b_range (ea_cons (ev_ix (fun _ _ => rfl) (ix_allD (hu1 hr)) (ev_var (i := 0) (nmem_of rfl) rfl (Or.inl rfl)) ev_int) ea_nil)) (eg_nm (i := 4) (nmem_of rfl) (nmem_of rfl) sc__law_greedy.nd rfl (Or.inr rfl)) (eb_cons (es_set (i := 5) (nmem_of rfl) (nmem_of rfl) sc__law_greedy.nd rfl (Or.inl rfl) (ev_blt cd_len rfl g.b_len (by decide +kernel) (ea_cons (ev_f (ef_lcIf (own := [("one", 6)]) rfl sc__law_greedy.nd (all_not rfl) (all_not rfl) (all_in rfl) (ei_seq (ev_ix (fun _ _ => rfl) (ix_allD (hu1 hr)) (ev_var (i := 0) (nmem_of rfl) rfl (Or.inl rfl)) ev_int)) (blkOk_by (by rfl)) (fun _ _ _ _ _ => (eg_nm (i := 6) (nmem_of rfl) (nmem_of rfl) sc__law_greedy.nd rfl (Or.inl rfl))) (fun _ _ _ _ _ => (et_cmp (od_eqA (hu64 hr)) (ev_var (i := 6) (nmem_of rfl) rfl (Or.inl rfl)) (ev_var (i := 4) (nmem_of rfl) rfl (Or.inr (Or.inl rfl))) rfl)) (fun _ _ _ _ _ => (ev_var (i := 6) (nmem_of rfl) rfl (Or.inl rfl))))) ea_nil)))
  (eb_cons (es_if (et_cmp (od_GT (hu64 hr)) (ev_var (i := 5) (nmem_of rfl) rfl (Or.inl rfl)) (ev_var (i := 1) (nmem_of rfl) rfl (Or.inl rfl)) rfl) (eb_cons (es_ret ev_non)
  eb_nil) eb_nil)
  (eb_cons (es_if (et_cmp (od_GT (hu64 hr)) (ev_bin od_add (ev_var (i := 3) (nmem_of rfl) rfl (Or.inl rfl)) (ev_var (i := 5) (nmem_of rfl) rfl (Or.inl rfl))) (ev_var (i := 1) (nmem_of rfl) rfl (Or.inl rfl)) rfl) (eb_cons (es_expr (ev_app (ev_plc (i := 2) (mem_of rfl) rfl (Or.inl rfl)) (ev_var (i := 4) (nmem_of rfl) rfl (Or.inr (Or.inl rfl)))))
  (eb_cons (es_set (i := 3) (nmem_of rfl) (nmem_of rfl) sc__law_greedy.nd rfl (Or.inl rfl) ev_int)
  eb_nil)) eb_nil)
  (eb_cons (es_set (i := 3) (nmem_of rfl) (nmem_of rfl) sc__law_greedy.nd rfl (Or.inl rfl) (ev_bin od_add (ev_var (i := 3) (nmem_of rfl) rfl (Or.inl rfl)) (ev_var (i := 5) (nmem_of rfl) rfl (Or.inl rfl))))
  eb_nil)))))
  (eb_frz (i := 2) (ow' := []) (frz_of rfl) (nmem_of rfl) (nmem_of rfl)
  (eb_cons (es_ret (ev_ty cd_tup rfl g.b_tuple (by decide +kernel) (ea_cons (ev_bin od_add (ev_var (i := 2) (nmem_of rfl) rfl (Or.inl rfl)) (ev_f (ef_lst (ea_cons (ev_ix (fun _ _ => rfl) (ix_allD (hu1 hr)) (ev_var (i := 0) (nmem_of rfl) rfl (Or.inl rfl)) ev_int) ea_nil)))) ea_nil)))
  eb_nil))))
/-! need_span -/
abbrev N_need_span : List Str := ["lengths", "start", "end"]
abbrev ps_need_span : List Str := ["lengths", "start", "end"]
theorem sc_need_span : FnScope N_need_span ps_need_span (defScope (top 15)) := ⟨rfl, rfl, rfl, by decide +kernel, rfl, by decide +kernel, by decide +kernel⟩
def B_need_span : SS :=
  (bCons (sIf (tOr (tNot (tTru (eCall m_is_whole (aCons (eVar 1) (aCons (eC (.int 0)) (aCons (eBin dSub (eBin dAt (eVar 0) (eC (.int 0))) (eC (.int 1))) aNil)))))) (tNot (tTru (eCall m_is_whole (aCons (eVar 2) (aCons (eBin dAdd (eVar 1) (eC (.int 1))) (aCons (eBin dAt (eVar 0) (eC (.int 0))) aNil))))))) (bCons sNo bNil) bNil) bNil)
def m_need_span : FS := ⟨ps_need_span.length, [], runB N_need_span.length ps_need_span.length [] B_need_span⟩
@[simp] theorem np_need_span : m_need_span.np = 3 := nr rfl
theorem me_need_span (ds : List D) : m_need_span.m ds = runB 3 3 [] B_need_span ds := nr rfl
theorem c_need_span (g : G K mg) : CalF P w K mg base (S0 K) 2 "need_span" m_need_span := by
  obtain ⟨fd, F⟩ := g.f_need_span
  refine cal_of (fn_ev (ow := []) (bor := []) (B := B_need_span) (fun_of F) sc_need_span (all_in rfl) (hbl_of rfl) (ho_of rfl) fun cdv A outer s H E hr tk => ?_) g.g_need_span F.kp (F.bindsN fun _ _ _ _ _ _ us hl => match us, hl with | [_, _, _], _ => rfl)
  exact (eb_cons (es_if (EvW.t (ew_or (et_not (et_truth (ev_call tk (c_is_whole g) same0 rfl hr (by decide) rfl (ea_cons (ev_var (i := 1) (nmem_of rfl) rfl (Or.inl rfl)) (ea_cons ev_int (ea_cons (ev_bin od_sub (ev_ix (fun _ _ => rfl) (ix_allD (hu1 hr)) (ev_var (i := 0) (nmem_of rfl) rfl (Or.inl rfl)) ev_int) ev_int) ea_nil)))) (fun _ => rfl))) (ew_or1 (et_not (et_truth (ev_call tk (c_is_whole g) same0 rfl hr (by decide) rfl (ea_cons (ev_var (i := 2) (nmem_of rfl) rfl (Or.inl rfl)) (ea_cons (ev_bin od_add (ev_var (i := 1) (nmem_of rfl) rfl (Or.inl rfl)) ev_int) (ea_cons (ev_ix (fun _ _ => rfl) (ix_allD (hu1 hr)) (ev_var (i := 0) (nmem_of rfl) rfl (Or.inl rfl)) ev_int) ea_nil)))) (fun _ => rfl)))))) (eb_cons es_no
  eb_nil) eb_nil)
  eb_nil)
/-! faults_in -/
abbrev N_faults_in : List Str := ["lengths", "start", "end", "sums"]
abbrev ps_faults_in : List Str := ["lengths", "start", "end"]
theorem sc_faults_in : FnScope N_faults_in ps_faults_in (defScope (top 20)) := ⟨rfl, rfl, rfl, by decide +kernel, rfl, by decide +kernel, by decide +kernel⟩
def B_faults_in : SS :=
  (bCons (sExpr (eCall m_need_lengths (aCons (eVar 0) aNil))) (bCons (sExpr (eCall m_need_span (aCons (eVar 0) (aCons (eVar 1) (aCons (eVar 2) aNil))))) (bCons (sSet 3 (eCall m_sums_of (aCons (eVar 0) aNil))) (bCons (sRet (eBin dSub (eBin dAt (eVar 3) (eVar 2)) (eBin dAt (eVar 3) (eVar 1)))) bNil))))
def m_faults_in : FS := ⟨ps_faults_in.length, [], runB N_faults_in.length ps_faults_in.length [] B_faults_in⟩
@[simp] theorem np_faults_in : m_faults_in.np = 3 := nr rfl
theorem me_faults_in (ds : List D) : m_faults_in.m ds = runB 4 3 [] B_faults_in ds := nr rfl
theorem c_faults_in (g : G K mg) : CalF P w K mg base (S0 K) 4 "faults_in" m_faults_in := by
  obtain ⟨fd, F⟩ := g.f_faults_in
  refine cal_of (fn_ev (ow := []) (bor := []) (B := B_faults_in) (fun_of F) sc_faults_in (all_in rfl) (hbl_of rfl) (ho_of rfl) fun cdv A outer s H E hr tk => ?_) g.g_faults_in F.kp (F.bindsN fun _ _ _ _ _ _ us hl => match us, hl with | [_, _, _], _ => rfl)
  exact (eb_cons (es_expr (ev_call tk (c_need_lengths g) same0 rfl hr (by decide) rfl (ea_cons (ev_var (i := 0) (nmem_of rfl) rfl (Or.inl rfl)) ea_nil)))
  (eb_cons (es_expr (ev_call tk (c_need_span g) same0 rfl hr (by decide) rfl (ea_cons (ev_var (i := 0) (nmem_of rfl) rfl (Or.inl rfl)) (ea_cons (ev_var (i := 1) (nmem_of rfl) rfl (Or.inl rfl)) (ea_cons (ev_var (i := 2) (nmem_of rfl) rfl (Or.inl rfl)) ea_nil)))))
  (eb_cons (es_set (i := 3) (nmem_of rfl) (nmem_of rfl) sc_faults_in.nd rfl (Or.inl rfl) (ev_call tk (c_sums_of g) same0 rfl hr (by decide) rfl (ea_cons (ev_var (i := 0) (nmem_of rfl) rfl (Or.inl rfl)) ea_nil)))
  (eb_cons (es_ret (ev_bin od_sub (ev_ix (fun _ _ => rfl) (ix_allD (hu1 hr)) (ev_var (i := 3) (nmem_of rfl) rfl (Or.inl rfl)) (ev_var (i := 2) (nmem_of rfl) rfl (Or.inl rfl))) (ev_ix (fun _ _ => rfl) (ix_allD (hu1 hr)) (ev_var (i := 3) (nmem_of rfl) rfl (Or.inl rfl)) (ev_var (i := 1) (nmem_of rfl) rfl (Or.inl rfl)))))
  eb_nil))))
/-! _law_bent -/
abbrev N__law_bent : List Str := ["cup", "value", "some", "at", "way"]
abbrev ps__law_bent : List Str := ["cup", "value"]
theorem sc__law_bent : FnScope N__law_bent ps__law_bent (defScope (top 31)) := ⟨rfl, rfl, rfl, by decide +kernel, rfl, by decide +kernel, by decide +kernel⟩
def B__law_bent (rec : FS) : SS :=
  (bCons (sIf (tOr (tNot (tTru (eIsi 3 (eVar 1)))) (tOr (tB (eBin dEqA (eVar 1) (eTup aNil))) (tB (eBin dEqA (eCallC m__law_roll (aCons (ePlc 0) (aCons (eC (.int 8)) aNil))) (eC (.int 0)))))) (bCons (sSet 2 (eF (fLst (aCons (eC .non) (aCons (eC (.bl true)) (aCons (eC (.bl false)) (aCons (eC (.int 0)) (aCons (eC (.int 1)) (aCons (eC (.int 2)) (aCons (eC (.int 5)) (aCons (eUn dNeg (eC (.int 1))) (aCons (eC (.str [])) (aCons (eC (.str [110, 111, 110, 101, 48])) (aCons (eC (.str [35])) (aCons (eC (.str [46])) (aCons (eTup aNil) (aCons (eF (fLst aNil)) aNil))))))))))))))))) (bCons (sIf (tB (eBin dEqA (eCall m__law_sort (aCons (eVar 1) aNil)) (eC (.int 2)))) (bCons (sSet 2 (eBin dAdd (eVar 2) (eF (fLst (aCons (eBin dAdd (eVar 1) (eC (.int 1))) (aCons (eBin dAdd (eVar 1) (eC (.int 1))) (aCons (eBin dSub (eVar 1) (eC (.int 1))) aNil))))))) bNil) bNil) (bCons (sRet (eCallC m__law_some (aCons (ePlc 0) (aCons (eVar 2) aNil)))) bNil))) bNil) (bCons (sPar [(3, false), (4, false)] (qVal (eCallC m__law_roll (aCons (ePlc 0) (aCons (eBlt bLen (aCons (eVar 1) aNil)) aNil))) (qVal (eCallC m__law_roll (aCons (ePlc 0) (aCons (eC (.int 12)) aNil))) qNil))) (bCons (sIf (tB (eBin dEqA (eVar 4) (eC (.int 0)))) (bCons (sRet (eBin dAdd (eSl (eVar 1) pNone (pSome (eVar 3))) (eSl (eVar 1) (pSome (eBin dAdd (eVar 3) (eC (.int 1)))) pNone))) bNil) bNil) (bCons (sIf (tB (eBin dEqA (eVar 4) (eC (.int 1)))) (bCons (sRet (eBin dAdd (eSl (eVar 1) pNone (pSome (eBin dAdd (eVar 3) (eC (.int 1))))) (eSl (eVar 1) (pSome (eVar 3)) pNone))) bNil) bNil) (bCons (sIf (tB (eBin dEqA (eVar 4) (eC (.int 2)))) (bCons (sRet (eF (fBlt bLst (aCons (eVar 1) aNil)))) bNil) bNil) (bCons (sIf (tB (eBin dEqA (eVar 4) (eC (.int 3)))) (bCons (sRet (eUn dRev (eVar 1))) bNil) bNil) (bCons (sRet (eBin dAdd (eBin dAdd (eSl (eVar 1) pNone (pSome (eVar 3))) (eTup (aCons (eCallC rec (aCons (ePlc 0) (aCons (eBin dAt (eVar 1) (eVar 3)) aNil))) aNil))) (eSl (eVar 1) (pSome (eBin dAdd (eVar 3) (eC (.int 1)))) pNone))) bNil)))))))
def mr__law_bent : Nat → FS
  | 0 => noF ps__law_bent.length [0]
  | n + 1 => ⟨ps__law_bent.length, [0], runB N__law_bent.length ps__law_bent.length [0] (B__law_bent (mr__law_bent n))⟩
theorem bor__law_bent : ∀ n, (mr__law_bent n).bor = [0]
  | 0 => rfl
  | _ + 1 => rfl
theorem cr__law_bent (g : G K mg) : ∀ n, CalF P w K mg base (S0 K) (2 + n) "_law_bent" (mr__law_bent n)
  | 0 => by
    obtain ⟨fd, F⟩ := g.f__law_bent
    exact cal_of fn_no g.g__law_bent F.kp (F.bindsN fun _ _ _ _ _ _ us hl => match us, hl with | [_, _], _ => rfl)
  | n + 1 => by
    obtain ⟨fd, F⟩ := g.f__law_bent
    have crec := cr__law_bent g n
    refine cal_of (fn_ev (ow := [0]) (bor := [0]) (B := B__law_bent (mr__law_bent n)) (fun_of F) sc__law_bent (all_in rfl) (hbl_of rfl) (ho_of rfl) fun cdv A outer s H E hr tk => ?_) g.g__law_bent F.kp (F.bindsN fun _ _ _ _ _ _ us hl => match us, hl with | [_, _], _ => rfl)
    exact (eb_cons (es_if (EvW.t (ew_or (et_not (et_truth (ev_isi 3 (by decide) rfl g.b_isinstance rfl g.b_tuple (by decide +kernel) (ev_var (i := 1) (nmem_of rfl) rfl (Or.inl rfl))) (fun _ => rfl))) (ew_or (et_cmp (od_eqA (hu64 hr)) (ev_var (i := 1) (nmem_of rfl) rfl (Or.inl rfl)) (ev_tup ea_nil) rfl) (ew_or1 (et_cmp (od_eqA (hu64 hr)) (ev_callC tk (c__law_roll g) same0 rfl hr (Nat.le_trans (by decide) (Nat.le_add_right _ _)) rfl (ea_cons (ev_plc (i := 0) (mem_of rfl) rfl (Or.inl rfl)) (ea_cons ev_int ea_nil))) ev_int rfl))))) (eb_cons (es_set (i := 2) (nmem_of rfl) (nmem_of rfl) sc__law_bent.nd rfl (Or.inl rfl) (ev_f (ef_lst (ea_cons ev_non (ea_cons ev_bl (ea_cons ev_bl (ea_cons ev_int (ea_cons ev_int (ea_cons ev_int (ea_cons ev_int (ea_cons (ev_un ud_neg ev_int) (ea_cons (ev_str []) (ea_cons (ev_str [110, 111, 110, 101, 48]) (ea_cons (ev_str [35]) (ea_cons (ev_str [46]) (ea_cons (ev_tup ea_nil) (ea_cons (ev_f (ef_lst ea_nil)) ea_nil)))))))))))))))))
  (eb_cons (es_if (et_cmp (od_eqA (hu64 hr)) (ev_call tk (c__law_sort g) same0 rfl hr (Nat.le_trans (by decide) (Nat.le_add_right _ _)) rfl (ea_cons (ev_var (i := 1) (nmem_of rfl) rfl (Or.inl rfl)) ea_nil)) ev_int rfl) (eb_cons (es_set (i := 2) (nmem_of rfl) (nmem_of rfl) sc__law_bent.nd rfl (Or.inl rfl) (ev_bin od_add (ev_var (i := 2) (nmem_of rfl) rfl (Or.inl rfl)) (ev_f (ef_lst (ea_cons (ev_bin od_add (ev_var (i := 1) (nmem_of rfl) rfl (Or.inl rfl)) ev_int) (ea_cons (ev_bin od_add (ev_var (i := 1) (nmem_of rfl) rfl (Or.inl rfl)) ev_int) (ea_cons (ev_bin od_sub (ev_var (i := 1) (nmem_of rfl) rfl (Or.inl rfl)) ev_int) ea_nil)))))))
  eb_nil) eb_nil)
  (eb_cons (es_ret (ev_callC tk (c__law_some g) same0 rfl hr (Nat.le_trans (by decide) (Nat.le_add_right _ _)) rfl (ea_cons (ev_plc (i := 0) (mem_of rfl) rfl (Or.inl rfl)) (ea_cons (ev_var (i := 2) (nmem_of rfl) rfl (Or.inl rfl)) ea_nil))))
  eb_nil))) eb_nil)
  (eb_cons (es_par2 (okT_of rfl) rfl sc__law_bent.nd rfl rfl (by decide) rfl rfl (eq_val (ev_callC tk (c__law_roll g) same0 rfl hr (Nat.le_trans (by decide) (Nat.le_add_right _ _)) rfl (ea_cons (ev_plc (i := 0) (mem_of rfl) rfl (Or.inl rfl)) (ea_cons (ev_blt cd_len rfl g.b_len (by decide +kernel) (ea_cons (ev_var (i := 1) (nmem_of rfl) rfl (Or.inl rfl)) ea_nil)) ea_nil))) (eq_val (ev_callC tk (c__law_roll g) same0 rfl hr (Nat.le_trans (by decide) (Nat.le_add_right _ _)) rfl (ea_cons (ev_plc (i := 0) (mem_of rfl) rfl (Or.inl rfl)) (ea_cons ev_int ea_nil))) eq_nil)) (by rfl))
  (eb_cons (es_if (et_cmp (od_eqA (hu64 hr)) (ev_var (i := 4) (nmem_of rfl) rfl (Or.inl rfl)) ev_int rfl) (eb_cons (es_ret (ev_bin od_add (ev_slice (ev_var (i := 1) (nmem_of rfl) rfl (Or.inl rfl)) ep_none (ep_some (ev_var (i := 3) (nmem_of rfl) rfl (Or.inl rfl)))) (ev_slice (ev_var (i := 1) (nmem_of rfl) rfl (Or.inl rfl)) (ep_some (ev_bin od_add (ev_var (i := 3) (nmem_of rfl) rfl (Or.inl rfl)) ev_int)) ep_none)))
  eb_nil) eb_nil)
  (eb_cons (es_if (et_cmp (od_eqA (hu64 hr)) (ev_var (i := 4) (nmem_of rfl) rfl (Or.inl rfl)) ev_int rfl) (eb_cons (es_ret (ev_bin od_add (ev_slice (ev_var (i := 1) (nmem_of rfl) rfl (Or.inl rfl)) ep_none (ep_some (ev_bin od_add (ev_var (i := 3) (nmem_of rfl) rfl (Or.inl rfl)) ev_int))) (ev_slice (ev_var (i := 1) (nmem_of rfl) rfl (Or.inl rfl)) (ep_some (ev_var (i := 3) (nmem_of rfl) rfl (Or.inl rfl))) ep_none)))
  eb_nil) eb_nil)
  (eb_cons (es_if (et_cmp (od_eqA (hu64 hr)) (ev_var (i := 4) (nmem_of rfl) rfl (Or.inl rfl)) ev_int rfl) (eb_cons (es_ret (ev_f (ef_ty cf_lst rfl g.b_list (by decide +kernel) (ea_cons (ev_var (i := 1) (nmem_of rfl) rfl (Or.inl rfl)) ea_nil))))
  eb_nil) eb_nil)
  (eb_cons (es_if (et_cmp (od_eqA (hu64 hr)) (ev_var (i := 4) (nmem_of rfl) rfl (Or.inl rfl)) ev_int rfl) (eb_cons (es_ret (ev_rev (ev_var (i := 1) (nmem_of rfl) rfl (Or.inl rfl))))
  eb_nil) eb_nil)
  (eb_cons (es_ret (ev_bin od_add (ev_bin od_add (ev_slice (ev_var (i := 1) (nmem_of rfl) rfl (Or.inl rfl)) ep_none (ep_some (ev_var (i := 3) (nmem_of rfl) rfl (Or.inl rfl)))) (ev_tup (ea_cons (ev_callC tk crec same0 (bor__law_bent n) hr (Nat.le_refl _) rfl (ea_cons (ev_plc (i := 0) (mem_of rfl) rfl (Or.inl rfl)) (ea_cons (ev_ix (fun _ _ => rfl) (ix_allD (hu1 hr)) (ev_var (i := 1) (nmem_of rfl) rfl (Or.inl rfl)) (ev_var (i := 3) (nmem_of rfl) rfl (Or.inl rfl))) ea_nil))) ea_nil))) (ev_slice (ev_var (i := 1) (nmem_of rfl) rfl (Or.inl rfl)) (ep_some (ev_bin od_add (ev_var (i := 3) (nmem_of rfl) rfl (Or.inl rfl)) ev_int)) ep_none)))
  eb_nil)))))))
@[simp] theorem npr__law_bent : ∀ n, (mr__law_bent n).np = 2
  | 0 => rfl
  | _ + 1 => rfl
theorem mer__law_bent (n : Nat) (ds : List D) : (mr__law_bent (n + 1)).m ds = runB 5 2 [0] (B__law_bent (mr__law_bent n)) ds := nr rfl
def m__law_bent : FS := mr__law_bent 8
@[simp] theorem np__law_bent : m__law_bent.np = 2 := nr rfl
theorem c__law_bent (g : G K mg) : CalF P w K mg base (S0 K) 10 "_law_bent" m__law_bent := cr__law_bent g 8
/-! _law_longest -/
abbrev N__law_longest : List Str := ["lengths", "bound", "size", "some", "start"]
abbrev ps__law_longest : List Str := ["lengths", "bound"]
theorem sc__law_longest : FnScope N__law_longest ps__law_longest (defScope (top 37)) := ⟨rfl, rfl, rfl, by decide +kernel, rfl, by decide +kernel, by decide +kernel⟩
def B__law_longest : SS :=
  (bCons (sFor (iRng rng3 (aCons (eBin dAt (eVar 0) (eC (.int 0))) (aCons (eC (.int 0)) (aCons (eUn dNeg (eC (.int 1))) aNil)))) (gNm 2) (bCons (sSet 3 (eF (fLc [4] (iRng rng1 (aCons (eBin dAdd (eBin dSub (eBin dAt (eVar 0) (eC (.int 0))) (eVar 2)) (eC (.int 1))) aNil)) (gNm 4) (tB (eBin dLE (eCall m__law_faults (aCons (eVar 0) (aCons (eVar 4) (aCons (eBin dAdd (eVar 4) (eVar 2)) aNil)))) (eVar 1))) (eVar 4)))) (bCons (sIf (tB (eBin dNeA (eVar 3) (eF (fLst aNil)))) (bCons (sRet (eTup (aCons (eBin dAt (eVar 3) (eC (.int 0))) (aCons (eBin dAdd (eBin dAt (eVar 3) (eC (.int 0))) (eVar 2)) aNil)))) bNil) bNil) bNil))) (bCons (sRet (eC .non)) bNil))
def m__law_longest : FS := ⟨ps__law_longest.length, [], runB N__law_longest.length ps__law_longest.length [] B__law_longest⟩
@[simp] theorem np__law_longest : m__law_longest.np = 2 := nr rfl
theorem me__law_longest (ds : List D) : m__law_longest.m ds = runB 5 2 [] B__law_longest ds := nr rfl
theorem c__law_longest (g : G K mg) : CalF P w K mg base (S0 K) 2 "_law_longest" m__law_longest := by
  obtain ⟨fd, F⟩ := g.f__law_longest
  refine cal_of (fn_ev (ow := []) (bor := []) (B := B__law_longest) (fun_of F) sc__law_longest (all_in rfl) (hbl_of rfl) (ho_of rfl) fun cdv A outer s H E hr tk => ?_) g.g__law_longest F.kp (F.bindsN fun _ _ _ _ _ _ us hl => match us, hl with | [_, _], _ => rfl)
  exact (eb_cons (es_for (passes_of rfl) rfl (ei_range3 rfl g.b_range (ea_cons (ev_ix (fun _ _ => rfl) (ix_allD (hu1 hr)) (ev_var (i := 0) (nmem_of rfl) rfl (Or.inr (Or.inl rfl))) ev_int) (ea_cons ev_int (ea_cons (ev_un ud_neg ev_int) ea_nil)))) (eg_nm (i := 2) (nmem_of rfl) (nmem_of rfl) sc__law_longest.nd rfl (Or.inr rfl)) (eb_cons (es_setLc (lc_partsIf (own := [("start", 4)]) (i := 3) rfl sc__law_longest.nd (all_not rfl) (all_not rfl) (all_in rfl) rfl rfl rfl rfl (by rfl) (ei_range1 rfl g.b_range (ea_cons (ev_bin od_add (ev_bin od_sub (ev_ix (fun _ _ => rfl) (ix_allD (hu1 hr)) (ev_var (i := 0) (nmem_of rfl) rfl (Or.inr (Or.inl rfl))) ev_int) (ev_var (i := 2) (nmem_of rfl) rfl (Or.inr (Or.inl rfl)))) ev_int) ea_nil)) (blkOk_by (by rfl)) (fun _ _ _ _ _ => (eg_nm (i := 4) (nmem_of rfl) (nmem_of rfl) sc__law_longest.nd rfl (Or.inl rfl))) (fun _ _ _ _ _ => (et_cmp (od_LE (hu64 hr)) (ev_call takes0 (c__law_faults g) same0 rfl hr (by decide) rfl (ea_cons (ev_var (i := 0) (nmem_of rfl) rfl (Or.inr (Or.inl rfl))) (ea_cons (ev_var (i := 4) (nmem_of rfl) rfl (Or.inl rfl)) (ea_cons (ev_bin od_add (ev_var (i := 4) (nmem_of rfl) rfl (Or.inl rfl)) (ev_var (i := 2) (nmem_of rfl) rfl (Or.inr (Or.inl rfl)))) ea_nil)))) (ev_var (i := 1) (nmem_of rfl) rfl (Or.inr (Or.inl rfl))) rfl)) (fun _ _ _ _ _ => (ev_var (i := 4) (nmem_of rfl) rfl (Or.inl rfl)))) (nmem_of rfl) (nmem_of rfl))
  (eb_cons (es_if (et_cmp (od_neA (hu64 hr)) (ev_var (i := 3) (nmem_of rfl) rfl (Or.inl rfl)) (ev_f (ef_lst ea_nil)) rfl) (eb_cons (es_ret (ev_tup (ea_cons (ev_ix (fun _ _ => rfl) (ix_allD (hu1 hr)) (ev_var (i := 3) (nmem_of rfl) rfl (Or.inl rfl)) ev_int) (ea_cons (ev_bin od_add (ev_ix (fun _ _ => rfl) (ix_allD (hu1 hr)) (ev_var (i := 3) (nmem_of rfl) rfl (Or.inl rfl)) ev_int) (ev_var (i := 2) (nmem_of rfl) rfl (Or.inr (Or.inl rfl)))) ea_nil))))
  eb_nil) eb_nil)
  eb_nil)))
  (eb_cons (es_ret ev_non)
  eb_nil))
/-! _law_is_cover -/
abbrev N__law_is_cover : List Str := ["lengths", "bound", "value", "start", "end", "one"]
abbrev ps__law_is_cover : List Str := ["lengths", "bound", "value"]
theorem sc__law_is_cover : FnScope N__law_is_cover ps__law_is_cover (defScope (top 35)) := ⟨rfl, rfl, rfl, by decide +kernel, rfl, by decide +kernel, by decide +kernel⟩
def B__law_is_cover : SS :=
  (bCons (sIf (tOr (tNot (tTru (eIsi 3 (eVar 2)))) (tOr (tB (eBin dLT (eBlt bLen (aCons (eVar 2) aNil)) (eC (.int 2)))) (tB (eBin dNeA (eF (fLc [5] (iSeq (eVar 2)) (gNm 5) (tB (eBin dNeA (eCall m__law_sort (aCons (eVar 5) aNil)) (eC (.int 2)))) (eVar 5))) (eF (fLst aNil)))))) (bCons (sRet (eC (.bl false))) bNil) bNil) (bCons (sIf (tOr (tB (eBin dNeA (eF (fBlt bLst (aCons (eVar 2) aNil))) (eF (fUn bSortSI (eVar 2))))) (tOr (tB (eBin dNeA (eBin dAt (eVar 2) (eC (.int 0))) (eC (.int 0)))) (tB (eBin dNeA (eBin dAt (eVar 2) (eUn dNeg (eC (.int 1)))) (eBin dAt (eVar 0) (eC (.int 0))))))) (bCons (sRet (eC (.bl false))) bNil) bNil) (bCons (sRet (eBin dEqA (eF (fLc [3, 4] (iRng zip2 (aCons (eVar 2) (aCons (eSl (eVar 2) (pSome (eC (.int 1))) pNone) aNil))) (gTupD 2 (gsCons (gNm 3) (gsCons (gNm 4) gsNil))) (tB (eBin dGT (eCall m__law_faults (aCons (eVar 0) (aCons (eVar 3) (aCons (eVar 4) aNil)))) (eVar 1))) (eC (.int 1)))) (eF (fLst aNil)))) bNil)))
def m__law_is_cover : FS := ⟨ps__law_is_cover.length, [], runB N__law_is_cover.length ps__law_is_cover.length [] B__law_is_cover⟩
@[simp] theorem np__law_is_cover : m__law_is_cover.np = 3 := nr rfl
theorem me__law_is_cover (ds : List D) : m__law_is_cover.m ds = runB 6 3 [] B__law_is_cover ds := nr rfl
theorem c__law_is_cover (g : G K mg) : CalF P w K mg base (S0 K) 2 "_law_is_cover" m__law_is_cover := by
  obtain ⟨fd, F⟩ := g.f__law_is_cover
  refine cal_of (fn_ev (ow := []) (bor := []) (B := B__law_is_cover) (fun_of F) sc__law_is_cover (all_in rfl) (hbl_of rfl) (ho_of rfl) fun cdv A outer s H E hr tk => ?_) g.g__law_is_cover F.kp (F.bindsN fun _ _ _ _ _ _ us hl => match us, hl with | [_, _, _], _ => rfl)
  exact (eb_cons (es_if (EvW.t (ew_or (et_not (et_truth (ev_isi 3 (by decide) rfl g.b_isinstance rfl g.b_tuple (by decide +kernel) (ev_var (i := 2) (nmem_of rfl) rfl (Or.inl rfl))) (fun _ => rfl))) (ew_or (et_cmp (od_LT (hu64 hr)) (ev_blt cd_len rfl g.b_len (by decide +kernel) (ea_cons (ev_var (i := 2) (nmem_of rfl) rfl (Or.inl rfl)) ea_nil)) ev_int rfl) (ew_or1 (et_cmp (od_neA (hu64 hr)) (ev_f (ef_lcIf (own := [("one", 5)]) rfl sc__law_is_cover.nd (all_not rfl) (all_not rfl) (all_in rfl) (ei_seq (ev_var (i := 2) (nmem_of rfl) rfl (Or.inl rfl))) (blkOk_by (by rfl)) (fun _ _ _ _ _ => (eg_nm (i := 5) (nmem_of rfl) (nmem_of rfl) sc__law_is_cover.nd rfl (Or.inl rfl))) (fun _ _ _ _ _ => (et_cmp (od_neA (hu64 hr)) (ev_call takes0 (c__law_sort g) same0 rfl hr (by decide) rfl (ea_cons (ev_var (i := 5) (nmem_of rfl) rfl (Or.inl rfl)) ea_nil)) ev_int rfl)) (fun _ _ _ _ _ => (ev_var (i := 5) (nmem_of rfl) rfl (Or.inl rfl))))) (ev_f (ef_lst ea_nil)) rfl))))) (eb_cons (es_ret ev_bl)
  eb_nil) eb_nil)
  (eb_cons (es_if (EvW.t (ew_or (et_cmp (od_neA (hu64 hr)) (ev_f (ef_ty cf_lst rfl g.b_list (by decide +kernel) (ea_cons (ev_var (i := 2) (nmem_of rfl) rfl (Or.inl rfl)) ea_nil))) (ev_f (ef_sortSI rfl rfl g.b_sorted rfl g.b_set (ev_var (i := 2) (nmem_of rfl) rfl (Or.inl rfl)))) rfl) (ew_or (et_cmp (od_neA (hu64 hr)) (ev_ix (fun _ _ => rfl) (ix_allD (hu1 hr)) (ev_var (i := 2) (nmem_of rfl) rfl (Or.inl rfl)) ev_int) ev_int rfl) (ew_or1 (et_cmp (od_neA (hu64 hr)) (ev_ix (fun _ _ => rfl) (ix_allD (hu1 hr)) (ev_var (i := 2) (nmem_of rfl) rfl (Or.inl rfl)) (ev_un ud_neg ev_int)) (ev_ix (fun _ _ => rfl) (ix_allD (hu1 hr)) (ev_var (i := 0) (nmem_of rfl) rfl (Or.inr (Or.inl rfl))) ev_int) rfl))))) (eb_cons (es_ret ev_bl)
  eb_nil) eb_nil)
  (eb_cons (es_ret (ev_cmp (od_eqA (hu64 hr)) (ev_f (ef_lcIf (own := [("start", 3), ("end", 4)]) rfl sc__law_is_cover.nd (all_not rfl) (all_not rfl) (all_in rfl) (ei_zip rfl g.b_zip (ea_cons (ev_var (i := 2) (nmem_of rfl) rfl (Or.inl rfl)) (ea_cons (ev_slice (ev_var (i := 2) (nmem_of rfl) rfl (Or.inl rfl)) (ep_some ev_int) ep_none) ea_nil))) (blkOk_by (by rfl)) (fun _ _ _ _ _ => (eg_tup rfl (egs_cons (eg_nm (i := 3) (nmem_of rfl) (nmem_of rfl) sc__law_is_cover.nd rfl (Or.inl rfl)) (egs_cons (eg_nm (i := 4) (nmem_of rfl) (nmem_of rfl) sc__law_is_cover.nd rfl (Or.inl rfl)) egs_nil)))) (fun _ _ _ _ _ => (et_cmp (od_GT (hu64 hr)) (ev_call takes0 (c__law_faults g) same0 rfl hr (by decide) rfl (ea_cons (ev_var (i := 0) (nmem_of rfl) rfl (Or.inr (Or.inl rfl))) (ea_cons (ev_var (i := 3) (nmem_of rfl) rfl (Or.inl rfl)) (ea_cons (ev_var (i := 4) (nmem_of rfl) rfl (Or.inl rfl)) ea_nil)))) (ev_var (i := 1) (nmem_of rfl) rfl (Or.inr (Or.inl rfl))) rfl)) (fun _ _ _ _ _ => ev_int))) (ev_f (ef_lst ea_nil)) rfl))
  eb_nil)))
/-! _law_right -/
abbrev N__law_right : List Str := ["cup", "lengths", "bound", "cover", "due", "fewest", "base", "at", "more", "values", "value", "start", "yard", "one"]
abbrev ps__law_right : List Str := ["cup", "lengths", "bound"]
theorem sc__law_right : FnScope N__law_right ps__law_right (defScope (top 38)) := ⟨rfl, rfl, rfl, by decide +kernel, rfl, by decide +kernel, by decide +kernel⟩
def T__law_right_5 : SS :=
  (bCons (sPar [(7, false), (8, false)] (qVal (eCallC m__law_roll (aCons (ePlc 0) (aCons (eBlt bLen (aCons (eVar 6) aNil)) aNil))) (qVal (eCallC m__law_roll (aCons (ePlc 0) (aCons (eBin dAdd (eBin dAt (eVar 1) (eC (.int 0))) (eC (.int 1))) aNil))) qNil))) (bCons (sSet 9 (eF (fLst (aCons (eVar 6) (aCons (eTupR rng1 (aCons (eBin dAdd (eBin dAt (eVar 1) (eC (.int 0))) (eC (.int 1))) aNil)) (aCons (eBlt bTup (aCons (eF (fUn bSortSI (eBin dAdd (eVar 6) (eTup (aCons (eVar 8) aNil))))) aNil)) (aCons (eBin dAdd (eSl (eVar 6) pNone (pSome (eVar 7))) (eSl (eVar 6) (pSome (eBin dAdd (eVar 7) (eC (.int 1)))) pNone)) (aCons (eUn dRev (eVar 6)) (aCons (eF (fBlt bLst (aCons (eVar 6) aNil))) aNil))))))))) (bCons (sSet 9 (eBin dAdd (eVar 9) (eF (fLst (aCons (eBin dAdd (eVar 6) (eSl (eVar 6) (pSome (eUn dNeg (eC (.int 1)))) pNone)) (aCons (eC .non) (aCons (eTup aNil) (aCons (eTup (aCons (eC (.int 0)) aNil)) (aCons (eBin dAdd (eBlt bTup (aCons (eF (fLc [13] (iSeq (eSl (eVar 6) pNone (pSome (eUn dNeg (eC (.int 1)))))) (gNm 13) cYes (eBlt bMax2 (aCons (eC (.int 0)) (aCons (eBin dSub (eVar 13) (eC (.int 1))) aNil))))) aNil)) (eSl (eVar 6) (pSome (eUn dNeg (eC (.int 1)))) pNone)) (aCons (eBin dAdd (eTup (aCons (eC (.bl false)) aNil)) (eSl (eVar 6) (pSome (eC (.int 1))) pNone)) (aCons (eCallC m__law_bent (aCons (ePlc 0) (aCons (eVar 6) aNil))) aNil))))))))))) (bCons (sFor (iSeq (eVar 9)) (gNm 10) (bCons (sIf (tNot (tTru (eCall m__law_like (aCons (eCall m_is_yard_cover (aCons (eVar 1) (aCons (eVar 2) (aCons (eVar 10) aNil)))) (aCons (eCall m__law_is_cover (aCons (eVar 1) (aCons (eVar 2) (aCons (eVar 10) aNil)))) aNil))))) (bCons (sRet (eC (.bl false))) bNil) bNil) bNil)) (bCons (sSet 11 (eCallC m__law_roll (aCons (ePlc 0) (aCons (eBin dAt (eVar 1) (eC (.int 0))) aNil)))) (bCons (sRet (eCall m__law_like (aCons (eCall m_faults_in (aCons (eVar 1) (aCons (eVar 11) (aCons (eBin dAt (eVar 1) (eC (.int 0))) aNil)))) (aCons (eBlt bLen (aCons (eF (fLc [12] (iSeq (eBin dAt (eVar 1) (eC (.int 1)))) (gNm 12) (tB (eBin dGE (eVar 12) (eVar 11))) (eVar 12))) aNil)) aNil)))) bNil))))))
def H__law_right_5 (T : SS) : SS :=
  (bCons (sPar [(3, false), (4, false)] (qVal (eCall m_yard_cover (aCons (eVar 1) (aCons (eVar 2) aNil))) (qVal (eCall m__law_greedy (aCons (eVar 1) (aCons (eVar 2) aNil))) qNil))) (bCons (sSet 5 (eCall m__law_fewest (aCons (eVar 1) (aCons (eVar 2) aNil)))) (bCons (sIf (tNot (tTru (eCall m__law_like (aCons (eF (fLst (aCons (eVar 3) (aCons (eCall m_fewest_pieces (aCons (eVar 1) (aCons (eVar 2) aNil))) (aCons (eCall m_longest_good (aCons (eVar 1) (aCons (eVar 2) aNil))) aNil))))) (aCons (eF (fLst (aCons (eVar 4) (aCons (eVar 5) (aCons (eCall m__law_longest (aCons (eVar 1) (aCons (eVar 2) aNil))) aNil))))) aNil))))) (bCons (sRet (eC (.bl false))) bNil) bNil) (bCons (sIf (tAnd (tB (eBin (dIs true) (eVar 4) (eC .non))) (tB (eBin dNeA (eBin dSub (eBlt bLen (aCons (eVar 4) aNil)) (eC (.int 1))) (eVar 5)))) (bCons (sRet (eC (.bl false))) bNil) bNil) (bCons (sSet 6 (eIf (tB (eBin (dIs true) (eVar 4) (eC .non))) (eVar 4) (eTup (aCons (eC (.int 0)) (aCons (eBin dAt (eVar 1) (eC (.int 0))) aNil))))) T)))))
def B__law_right : SS :=
  (bCons (sPar [(3, false), (4, false)] (qVal (eCall m_yard_cover (aCons (eVar 1) (aCons (eVar 2) aNil))) (qVal (eCall m__law_greedy (aCons (eVar 1) (aCons (eVar 2) aNil))) qNil))) (bCons (sSet 5 (eCall m__law_fewest (aCons (eVar 1) (aCons (eVar 2) aNil)))) (bCons (sIf (tNot (tTru (eCall m__law_like (aCons (eF (fLst (aCons (eVar 3) (aCons (eCall m_fewest_pieces (aCons (eVar 1) (aCons (eVar 2) aNil))) (aCons (eCall m_longest_good (aCons (eVar 1) (aCons (eVar 2) aNil))) aNil))))) (aCons (eF (fLst (aCons (eVar 4) (aCons (eVar 5) (aCons (eCall m__law_longest (aCons (eVar 1) (aCons (eVar 2) aNil))) aNil))))) aNil))))) (bCons (sRet (eC (.bl false))) bNil) bNil) (bCons (sIf (tAnd (tB (eBin (dIs true) (eVar 4) (eC .non))) (tB (eBin dNeA (eBin dSub (eBlt bLen (aCons (eVar 4) aNil)) (eC (.int 1))) (eVar 5)))) (bCons (sRet (eC (.bl false))) bNil) bNil) (bCons (sSet 6 (eIf (tB (eBin (dIs true) (eVar 4) (eC .non))) (eVar 4) (eTup (aCons (eC (.int 0)) (aCons (eBin dAt (eVar 1) (eC (.int 0))) aNil))))) T__law_right_5)))))
def m__law_right : FS := ⟨ps__law_right.length, [0], runB N__law_right.length ps__law_right.length [0] B__law_right⟩
@[simp] theorem np__law_right : m__law_right.np = 3 := nr rfl
theorem me__law_right (ds : List D) : m__law_right.m ds = runB 14 3 [0] B__law_right ds := nr rfl
theorem c__law_right (g : G K mg) : CalF P w K mg base (S0 K) 11 "_law_right" m__law_right := by
  obtain ⟨fd, F⟩ := g.f__law_right
  refine cal_of (fn_ev (ow := [0]) (bor := [0]) (B := B__law_right) (fun_of F) sc__law_right (all_in rfl) (hbl_of rfl) (ho_of rfl) fun cdv A outer s H E hr tk => ?_) g.g__law_right F.kp (F.bindsN fun _ _ _ _ _ _ us hl => match us, hl with | [_, _, _], _ => rfl)
  exact (eb_cons (es_par2 (okT_of rfl) rfl sc__law_right.nd rfl rfl (by decide) rfl rfl (eq_val (ev_call tk (c_yard_cover g) same0 rfl hr (by decide) rfl (ea_cons (ev_var (i := 1) (nmem_of rfl) rfl (Or.inl rfl)) (ea_cons (ev_var (i := 2) (nmem_of rfl) rfl (Or.inl rfl)) ea_nil))) (eq_val (ev_call tk (c__law_greedy g) same0 rfl hr (by decide) rfl (ea_cons (ev_var (i := 1) (nmem_of rfl) rfl (Or.inl rfl)) (ea_cons (ev_var (i := 2) (nmem_of rfl) rfl (Or.inl rfl)) ea_nil))) eq_nil)) (by rfl))
  (eb_cons (es_set (i := 5) (nmem_of rfl) (nmem_of rfl) sc__law_right.nd rfl (Or.inl rfl) (ev_call tk (c__law_fewest g) same0 rfl hr (by decide) rfl (ea_cons (ev_var (i := 1) (nmem_of rfl) rfl (Or.inl rfl)) (ea_cons (ev_var (i := 2) (nmem_of rfl) rfl (Or.inl rfl)) ea_nil))))
  (eb_cons (es_if (et_not (et_truth (ev_call tk (c__law_like g) same0 rfl hr (by decide) rfl (ea_cons (ev_f (ef_lst (ea_cons (ev_var (i := 3) (nmem_of rfl) rfl (Or.inl rfl)) (ea_cons (ev_call tk (c_fewest_pieces g) same0 rfl hr (by decide) rfl (ea_cons (ev_var (i := 1) (nmem_of rfl) rfl (Or.inl rfl)) (ea_cons (ev_var (i := 2) (nmem_of rfl) rfl (Or.inl rfl)) ea_nil))) (ea_cons (ev_call tk (c_longest_good g) same0 rfl hr (by decide) rfl (ea_cons (ev_var (i := 1) (nmem_of rfl) rfl (Or.inl rfl)) (ea_cons (ev_var (i := 2) (nmem_of rfl) rfl (Or.inl rfl)) ea_nil))) ea_nil))))) (ea_cons (ev_f (ef_lst (ea_cons (ev_var (i := 4) (nmem_of rfl) rfl (Or.inl rfl)) (ea_cons (ev_var (i := 5) (nmem_of rfl) rfl (Or.inl rfl)) (ea_cons (ev_call tk (c__law_longest g) same0 rfl hr (by decide) rfl (ea_cons (ev_var (i := 1) (nmem_of rfl) rfl (Or.inl rfl)) (ea_cons (ev_var (i := 2) (nmem_of rfl) rfl (Or.inl rfl)) ea_nil))) ea_nil))))) ea_nil))) (fun _ => rfl))) (eb_cons (es_ret ev_bl)
  eb_nil) eb_nil)
  (eb_cons (es_if (EvW.t (ew_and (et_cmp od_isNot (ev_var (i := 4) (nmem_of rfl) rfl (Or.inl rfl)) ev_non rfl) (ew_and1 (et_cmp (od_neA (hu64 hr)) (ev_bin od_sub (ev_blt cd_len rfl g.b_len (by decide +kernel) (ea_cons (ev_var (i := 4) (nmem_of rfl) rfl (Or.inl rfl)) ea_nil)) ev_int) (ev_var (i := 5) (nmem_of rfl) rfl (Or.inl rfl)) rfl)))) (eb_cons (es_ret ev_bl)
  eb_nil) eb_nil)
  (eb_cons (es_set (i := 6) (nmem_of rfl) (nmem_of rfl) sc__law_right.nd rfl (Or.inl rfl) (ev_if (et_cmp od_isNot (ev_var (i := 4) (nmem_of rfl) rfl (Or.inl rfl)) ev_non rfl) (ev_var (i := 4) (nmem_of rfl) rfl (Or.inl rfl)) (ev_tup (ea_cons ev_int (ea_cons (ev_ix (fun _ _ => rfl) (ix_allD (hu1 hr)) (ev_var (i := 1) (nmem_of rfl) rfl (Or.inl rfl)) ev_int) ea_nil)))))
  (eb_cons (es_par2 (okT_of rfl) rfl sc__law_right.nd rfl rfl (by decide) rfl rfl (eq_val (ev_callC tk (c__law_roll g) same0 rfl hr (by decide) rfl (ea_cons (ev_plc (i := 0) (mem_of rfl) rfl (Or.inl rfl)) (ea_cons (ev_blt cd_len rfl g.b_len (by decide +kernel) (ea_cons (ev_var (i := 6) (nmem_of rfl) rfl (Or.inl rfl)) ea_nil)) ea_nil))) (eq_val (ev_callC tk (c__law_roll g) same0 rfl hr (by decide) rfl (ea_cons (ev_plc (i := 0) (mem_of rfl) rfl (Or.inl rfl)) (ea_cons (ev_bin od_add (ev_ix (fun _ _ => rfl) (ix_allD (hu1 hr)) (ev_var (i := 1) (nmem_of rfl) rfl (Or.inl rfl)) ev_int) ev_int) ea_nil))) eq_nil)) (by rfl))
  (eb_cons (es_set (i := 9) (nmem_of rfl) (nmem_of rfl) sc__law_right.nd rfl (Or.inl rfl) (ev_f (ef_lst (ea_cons (ev_var (i := 6) (nmem_of rfl) rfl (Or.inl rfl)) (ea_cons (ev_tupR1 rfl rfl g.b_range rfl g.b_tuple (ea_cons (ev_bin od_add (ev_ix (fun _ _ => rfl) (ix_allD (hu1 hr)) (ev_var (i := 1) (nmem_of rfl) rfl (Or.inl rfl)) ev_int) ev_int) ea_nil)) (ea_cons (ev_ty cd_tup rfl g.b_tuple (by decide +kernel) (ea_cons (ev_f (ef_sortSI rfl rfl g.b_sorted rfl g.b_set (ev_bin od_add (ev_var (i := 6) (nmem_of rfl) rfl (Or.inl rfl)) (ev_tup (ea_cons (ev_var (i := 8) (nmem_of rfl) rfl (Or.inl rfl)) ea_nil))))) ea_nil)) (ea_cons (ev_bin od_add (ev_slice (ev_var (i := 6) (nmem_of rfl) rfl (Or.inl rfl)) ep_none (ep_some (ev_var (i := 7) (nmem_of rfl) rfl (Or.inl rfl)))) (ev_slice (ev_var (i := 6) (nmem_of rfl) rfl (Or.inl rfl)) (ep_some (ev_bin od_add (ev_var (i := 7) (nmem_of rfl) rfl (Or.inl rfl)) ev_int)) ep_none)) (ea_cons (ev_rev (ev_var (i := 6) (nmem_of rfl) rfl (Or.inl rfl))) (ea_cons (ev_f (ef_ty cf_lst rfl g.b_list (by decide +kernel) (ea_cons (ev_var (i := 6) (nmem_of rfl) rfl (Or.inl rfl)) ea_nil))) ea_nil)))))))))
  (eb_cons (es_set (i := 9) (nmem_of rfl) (nmem_of rfl) sc__law_right.nd rfl (Or.inl rfl) (ev_bin od_add (ev_var (i := 9) (nmem_of rfl) rfl (Or.inl rfl)) (ev_f (ef_lst (ea_cons (ev_bin od_add (ev_var (i := 6) (nmem_of rfl) rfl (Or.inl rfl)) (ev_slice (ev_var (i := 6) (nmem_of rfl) rfl (Or.inl rfl)) (ep_some (ev_un ud_neg ev_int)) ep_none)) (ea_cons ev_non (ea_cons (ev_tup ea_nil) (ea_cons (ev_tup (ea_cons ev_int ea_nil)) (ea_cons (ev_bin od_add (ev_ty cd_tup rfl g.b_tuple (by decide +kernel) (ea_cons (ev_f (ef_lc (own := [("one", 13)]) rfl sc__law_right.nd (all_not rfl) (all_not rfl) (all_in rfl) (ei_seq (ev_slice (ev_var (i := 6) (nmem_of rfl) rfl (Or.inl rfl)) ep_none (ep_some (ev_un ud_neg ev_int)))) (blkOk_by (by rfl)) (fun _ _ _ _ _ => (eg_nm (i := 13) (nmem_of rfl) (nmem_of rfl) sc__law_right.nd rfl (Or.inl rfl))) (fun _ _ _ _ _ => (ev_blt (cd_max2 rfl) rfl g.b_max (by decide +kernel) (ea_cons ev_int (ea_cons (ev_bin od_sub (ev_var (i := 13) (nmem_of rfl) rfl (Or.inl rfl)) ev_int) ea_nil)))))) ea_nil)) (ev_slice (ev_var (i := 6) (nmem_of rfl) rfl (Or.inl rfl)) (ep_some (ev_un ud_neg ev_int)) ep_none)) (ea_cons (ev_bin od_add (ev_tup (ea_cons ev_bl ea_nil)) (ev_slice (ev_var (i := 6) (nmem_of rfl) rfl (Or.inl rfl)) (ep_some ev_int) ep_none)) (ea_cons (ev_callC tk (c__law_bent g) same0 rfl hr (by decide) rfl (ea_cons (ev_plc (i := 0) (mem_of rfl) rfl (Or.inl rfl)) (ea_cons (ev_var (i := 6) (nmem_of rfl) rfl (Or.inl rfl)) ea_nil))) ea_nil)))))))))))
  (eb_cons (es_for (passes_of rfl) rfl (ei_seq (ev_var (i := 9) (nmem_of rfl) rfl (Or.inl rfl))) (eg_nm (i := 10) (nmem_of rfl) (nmem_of rfl) sc__law_right.nd rfl (Or.inl rfl)) (eb_cons (es_if (et_not (et_truth (ev_call tk (c__law_like g) same0 rfl hr (by decide) rfl (ea_cons (ev_call tk (c_is_yard_cover g) same0 rfl hr (by decide) rfl (ea_cons (ev_var (i := 1) (nmem_of rfl) rfl (Or.inl rfl)) (ea_cons (ev_var (i := 2) (nmem_of rfl) rfl (Or.inl rfl)) (ea_cons (ev_var (i := 10) (nmem_of rfl) rfl (Or.inl rfl)) ea_nil)))) (ea_cons (ev_call tk (c__law_is_cover g) same0 rfl hr (by decide) rfl (ea_cons (ev_var (i := 1) (nmem_of rfl) rfl (Or.inl rfl)) (ea_cons (ev_var (i := 2) (nmem_of rfl) rfl (Or.inl rfl)) (ea_cons (ev_var (i := 10) (nmem_of rfl) rfl (Or.inl rfl)) ea_nil)))) ea_nil))) (fun _ => rfl))) (eb_cons (es_ret ev_bl)
  eb_nil) eb_nil)
  eb_nil))
  (eb_cons (es_set (i := 11) (nmem_of rfl) (nmem_of rfl) sc__law_right.nd rfl (Or.inr rfl) (ev_callC tk (c__law_roll g) same0 rfl hr (by decide) rfl (ea_cons (ev_plc (i := 0) (mem_of rfl) rfl (Or.inl rfl)) (ea_cons (ev_ix (fun _ _ => rfl) (ix_allD (hu1 hr)) (ev_var (i := 1) (nmem_of rfl) rfl (Or.inl rfl)) ev_int) ea_nil))))
  (eb_cons (es_ret (ev_call tk (c__law_like g) same0 rfl hr (by decide) rfl (ea_cons (ev_call tk (c_faults_in g) same0 rfl hr (by decide) rfl (ea_cons (ev_var (i := 1) (nmem_of rfl) rfl (Or.inl rfl)) (ea_cons (ev_var (i := 11) (nmem_of rfl) rfl (Or.inr (Or.inl rfl))) (ea_cons (ev_ix (fun _ _ => rfl) (ix_allD (hu1 hr)) (ev_var (i := 1) (nmem_of rfl) rfl (Or.inl rfl)) ev_int) ea_nil)))) (ea_cons (ev_blt cd_len rfl g.b_len (by decide +kernel) (ea_cons (ev_f (ef_lcIf (own := [("yard", 12)]) rfl sc__law_right.nd (all_not rfl) (all_not rfl) (all_in rfl) (ei_seq (ev_ix (fun _ _ => rfl) (ix_allD (hu1 hr)) (ev_var (i := 1) (nmem_of rfl) rfl (Or.inl rfl)) ev_int)) (blkOk_by (by rfl)) (fun _ _ _ _ _ => (eg_nm (i := 12) (nmem_of rfl) (nmem_of rfl) sc__law_right.nd rfl (Or.inl rfl))) (fun _ _ _ _ _ => (et_cmp (od_GE (hu64 hr)) (ev_var (i := 12) (nmem_of rfl) rfl (Or.inl rfl)) (ev_var (i := 11) (nmem_of rfl) rfl (Or.inr (Or.inl rfl))) rfl)) (fun _ _ _ _ _ => (ev_var (i := 12) (nmem_of rfl) rfl (Or.inl rfl))))) ea_nil)) ea_nil))))
  eb_nil)))))))))))
/-! law -/
abbrev N_law : List Str := ["script", "cup", "lengths", "told", "turn", "bound", "length", "even", "due"]
abbrev ps_law : List Str := ["script"]
theorem sc_law : FnScope N_law ps_law (defScope (top 39)) := ⟨rfl, rfl, rfl, by decide +kernel, rfl, by decide +kernel, by decide +kernel⟩
def B_law : SS :=
  (bCons (sSetF 1 (fCall mf__law_cup (aCons (eVar 0) aNil))) (bCons (sSet 2 (eTup (aCons (eC (.int 10)) (aCons (eTup (aCons (eC (.int 2)) (aCons (eC (.int 2)) (aCons (eC (.int 6)) aNil)))) aNil)))) (bCons (sSet 3 (eF (fLst (aCons (eCall m_fewest_pieces (aCons (eVar 2) (aCons (eC (.int 0)) aNil))) (aCons (eCall m_fewest_pieces (aCons (eVar 2) (aCons (eC (.int 1)) aNil))) (aCons (eCall m_fewest_pieces (aCons (eVar 2) (aCons (eC (.int 2)) aNil))) (aCons (eCall m_yard_cover (aCons (eVar 2) (aCons (eC (.int 2)) aNil))) (aCons (eCall m_is_yard_cover (aCons (eVar 2) (aCons (eC (.int 2)) (aCons (eTup (aCons (eC (.int 0)) (aCons (eC (.int 5)) (aCons (eC (.int 10)) aNil)))) aNil)))) aNil)))))))) (bCons (sSet 3 (eBin dAdd (eVar 3) (eF (fLst (aCons (eCall m_longest_good (aCons (eVar 2) (aCons (eC (.int 0)) aNil))) (aCons (eCall m_longest_good (aCons (eVar 2) (aCons (eC (.int 1)) aNil))) (aCons (eCall m_fewest_pieces (aCons (eVar 2) (aCons (eC (.int 3)) aNil))) (aCons (eCall m_yard_cover (aCons (eVar 2) (aCons (eC (.int 120)) aNil))) (aCons (eCall m_longest_good (aCons (eTup (aCons (eC (.int 2)) (aCons (eTup (aCons (eC (.int 0)) (aCons (eC (.int 0)) (aCons (eC (.int 1)) (aCons (eC (.int 1)) aNil))))) aNil))) (aCons (eC (.int 1)) aNil))) aNil))))))))) (bCons (sIf (tNot (tTru (eCall m__law_like (aCons (eVar 3) (aCons (eF (fLst (aCons (eC .non) (aCons (eC .non) (aCons (eC (.int 2)) (aCons (eTup (aCons (eC (.int 0)) (aCons (eC (.int 6)) (aCons (eC (.int 10)) aNil)))) (aCons (eC (.bl true)) (aCons (eTup (aCons (eC (.int 3)) (aCons (eC (.int 6)) aNil))) (aCons (eTup (aCons (eC (.int 3)) (aCons (eC (.int 10)) aNil))) (aCons (eC (.int 1)) (aCons (eTup (aCons (eC (.int 0)) (aCons (eC (.int 10)) aNil))) (aCons (eC .non) aNil)))))))))))) aNil))))) (bCons (sRet (eC (.bl false))) bNil) bNil) (bCons (sFor (iRng rng1 (aCons (eC (.int 5)) aNil)) (gNm 4) (bCons (sSet 2 (eCallC m__law_lengths (aCons (ePlc 1) (aCons (eCallC m__law_some (aCons (ePlc 1) (aCons (eF (fLst (aCons (eC (.int 5)) (aCons (eC (.int 20)) (aCons (eC (.int 60)) aNil))))) aNil))) aNil)))) (bCons (sIf (tNot (tTru (eCallC m__law_right (aCons (ePlc 1) (aCons (eVar 2) (aCons (eCallC m__law_some (aCons (ePlc 1) (aCons (eF (fLst (aCons (eC (.int 0)) (aCons (eC (.int 1)) (aCons (eC (.int 2)) (aCons (eC (.int 3)) (aCons (eC (.int 5)) aNil))))))) aNil))) aNil)))))) (bCons (sRet (eC (.bl false))) bNil) bNil) bNil))) (bCons (sPar [(5, false), (6, false)] (qVal (eBin dAdd (eC (.int 1)) (eCallC m__law_roll (aCons (ePlc 1) (aCons (eC (.int 9)) aNil)))) (qVal (eBin dAdd (eC (.int 1)) (eCallC m__law_roll (aCons (ePlc 1) (aCons (eC (.int 40)) aNil)))) qNil))) (bCons (sSet 7 (eTup (aCons (eVar 6) (aCons (eTupR rng1 (aCons (eVar 6) aNil)) aNil)))) (bCons (sSet 8 (eBlt bTup (aCons (eBin dAdd (eF (fLstR rng3 (aCons (eC (.int 0)) (aCons (eVar 6) (aCons (eVar 5) aNil))))) (eF (fLst (aCons (eVar 6) aNil)))) aNil))) (bCons (sRet (eCall m__law_like (aCons (eF (fLst (aCons (eCall m_yard_cover (aCons (eVar 7) (aCons (eVar 5) aNil))) (aCons (eCall m_fewest_pieces (aCons (eVar 7) (aCons (eVar 5) aNil))) (aCons (eCall m_longest_good (aCons (eVar 7) (aCons (eVar 5) aNil))) aNil))))) (aCons (eF (fLst (aCons (eVar 8) (aCons (eBin dSub (eBlt bLen (aCons (eVar 8) aNil)) (eC (.int 1))) (aCons (eTup (aCons (eC (.int 0)) (aCons (eBlt bMin2A (aCons (eVar 6) (aCons (eVar 5) aNil))) aNil))) aNil))))) aNil)))) bNil))))))))))
def m_law : FS := ⟨ps_law.length, [], runB N_law.length ps_law.length [] B_law⟩
theorem me_law (ds : List D) : m_law.m ds = runB 9 1 [] B_law ds := nr rfl
theorem f_law_ok (g : G K mg) {fd : FuncData} (F : FnP K "law" 39 (He.ga K "law") fd) : FnOk P w K mg base (L2.CX P w) 12 (He.ga K "law") fd ps_law (spF K (S0 K) m_law) := by
  refine fn_ev (ow := [1]) (bor := []) (B := B_law) (fun_of F) sc_law (all_in rfl) (hbl_of rfl) (ho_of rfl) fun cdv A outer s H E hr tk => ?_
  exact (eb_cons (es_setF (i := 1) (mem_of rfl) (nmem_of rfl) sc_law.nd rfl (Or.inl rfl) (ef_call tk (cf__law_cup g) same0 hr (by decide) rfl (ea_cons (ev_var (i := 0) (nmem_of rfl) rfl (Or.inl rfl)) ea_nil)))
  (eb_cons (es_set (i := 2) (nmem_of rfl) (nmem_of rfl) sc_law.nd rfl (Or.inl rfl) (ev_tup (ea_cons ev_int (ea_cons (ev_tup (ea_cons ev_int (ea_cons ev_int (ea_cons ev_int ea_nil)))) ea_nil))))
  (eb_cons (es_set (i := 3) (nmem_of rfl) (nmem_of rfl) sc_law.nd rfl (Or.inl rfl) (ev_f (ef_lst (ea_cons (ev_call tk (c_fewest_pieces g) same0 rfl hr (by decide) rfl (ea_cons (ev_var (i := 2) (nmem_of rfl) rfl (Or.inl rfl)) (ea_cons ev_int ea_nil))) (ea_cons (ev_call tk (c_fewest_pieces g) same0 rfl hr (by decide) rfl (ea_cons (ev_var (i := 2) (nmem_of rfl) rfl (Or.inl rfl)) (ea_cons ev_int ea_nil))) (ea_cons (ev_call tk (c_fewest_pieces g) same0 rfl hr (by decide) rfl (ea_cons (ev_var (i := 2) (nmem_of rfl) rfl (Or.inl rfl)) (ea_cons ev_int ea_nil))) (ea_cons (ev_call tk (c_yard_cover g) same0 rfl hr (by decide) rfl (ea_cons (ev_var (i := 2) (nmem_of rfl) rfl (Or.inl rfl)) (ea_cons ev_int ea_nil))) (ea_cons (ev_call tk (c_is_yard_cover g) same0 rfl hr (by decide) rfl (ea_cons (ev_var (i := 2) (nmem_of rfl) rfl (Or.inl rfl)) (ea_cons ev_int (ea_cons (ev_tup (ea_cons ev_int (ea_cons ev_int (ea_cons ev_int ea_nil)))) ea_nil)))) ea_nil))))))))
  (eb_cons (es_set (i := 3) (nmem_of rfl) (nmem_of rfl) sc_law.nd rfl (Or.inl rfl) (ev_bin od_add (ev_var (i := 3) (nmem_of rfl) rfl (Or.inl rfl)) (ev_f (ef_lst (ea_cons (ev_call tk (c_longest_good g) same0 rfl hr (by decide) rfl (ea_cons (ev_var (i := 2) (nmem_of rfl) rfl (Or.inl rfl)) (ea_cons ev_int ea_nil))) (ea_cons (ev_call tk (c_longest_good g) same0 rfl hr (by decide) rfl (ea_cons (ev_var (i := 2) (nmem_of rfl) rfl (Or.inl rfl)) (ea_cons ev_int ea_nil))) (ea_cons (ev_call tk (c_fewest_pieces g) same0 rfl hr (by decide) rfl (ea_cons (ev_var (i := 2) (nmem_of rfl) rfl (Or.inl rfl)) (ea_cons ev_int ea_nil))) (ea_cons (ev_call tk (c_yard_cover g) same0 rfl hr (by decide) rfl (ea_cons (ev_var (i := 2) (nmem_of rfl) rfl (Or.inl rfl)) (ea_cons ev_int ea_nil))) (ea_cons (ev_call tk (c_longest_good g) same0 rfl hr (by decide) rfl (ea_cons (ev_tup (ea_cons ev_int (ea_cons (ev_tup (ea_cons ev_int (ea_cons ev_int (ea_cons ev_int (ea_cons ev_int ea_nil))))) ea_nil))) (ea_cons ev_int ea_nil))) ea_nil)))))))))
  (eb_cons (es_if (et_not (et_truth (ev_call tk (c__law_like g) same0 rfl hr (by decide) rfl (ea_cons (ev_var (i := 3) (nmem_of rfl) rfl (Or.inl rfl)) (ea_cons (ev_f (ef_lst (ea_cons ev_non (ea_cons ev_non (ea_cons ev_int (ea_cons (ev_tup (ea_cons ev_int (ea_cons ev_int (ea_cons ev_int ea_nil)))) (ea_cons ev_bl (ea_cons (ev_tup (ea_cons ev_int (ea_cons ev_int ea_nil))) (ea_cons (ev_tup (ea_cons ev_int (ea_cons ev_int ea_nil))) (ea_cons ev_int (ea_cons (ev_tup (ea_cons ev_int (ea_cons ev_int ea_nil))) (ea_cons ev_non ea_nil)))))))))))) ea_nil))) (fun _ => rfl))) (eb_cons (es_ret ev_bl)
  eb_nil) eb_nil)
  (eb_cons (es_for (passes_of rfl) rfl (ei_range1 rfl g.b_range (ea_cons ev_int ea_nil)) (eg_nm (i := 4) (nmem_of rfl) (nmem_of rfl) sc_law.nd rfl (Or.inl rfl)) (eb_cons (es_set (i := 2) (nmem_of rfl) (nmem_of rfl) sc_law.nd rfl (Or.inl rfl) (ev_callC tk (c__law_lengths g) same0 rfl hr (by decide) rfl (ea_cons (ev_plc (i := 1) (mem_of rfl) rfl (Or.inl rfl)) (ea_cons (ev_callC tk (c__law_some g) same0 rfl hr (by decide) rfl (ea_cons (ev_plc (i := 1) (mem_of rfl) rfl (Or.inl rfl)) (ea_cons (ev_f (ef_lst (ea_cons ev_int (ea_cons ev_int (ea_cons ev_int ea_nil))))) ea_nil))) ea_nil))))
  (eb_cons (es_if (et_not (et_truth (ev_callC tk (c__law_right g) same0 rfl hr (by decide) rfl (ea_cons (ev_plc (i := 1) (mem_of rfl) rfl (Or.inl rfl)) (ea_cons (ev_var (i := 2) (nmem_of rfl) rfl (Or.inl rfl)) (ea_cons (ev_callC tk (c__law_some g) same0 rfl hr (by decide) rfl (ea_cons (ev_plc (i := 1) (mem_of rfl) rfl (Or.inl rfl)) (ea_cons (ev_f (ef_lst (ea_cons ev_int (ea_cons ev_int (ea_cons ev_int (ea_cons ev_int (ea_cons ev_int ea_nil))))))) ea_nil))) ea_nil)))) (fun _ => rfl))) (eb_cons (es_ret ev_bl)
  eb_nil) eb_nil)
  eb_nil)))
  (eb_cons (es_par2 (okT_of rfl) rfl sc_law.nd rfl rfl (by decide) rfl rfl (eq_val (ev_bin od_add ev_int (ev_callC tk (c__law_roll g) same0 rfl hr (by decide) rfl (ea_cons (ev_plc (i := 1) (mem_of rfl) rfl (Or.inl rfl)) (ea_cons ev_int ea_nil)))) (eq_val (ev_bin od_add ev_int (ev_callC tk (c__law_roll g) same0 rfl hr (by decide) rfl (ea_cons (ev_plc (i := 1) (mem_of rfl) rfl (Or.inl rfl)) (ea_cons ev_int ea_nil)))) eq_nil)) (by rfl))
  (eb_cons (es_set (i := 7) (nmem_of rfl) (nmem_of rfl) sc_law.nd rfl (Or.inl rfl) (ev_tup (ea_cons (ev_var (i := 6) (nmem_of rfl) rfl (Or.inl rfl)) (ea_cons (ev_tupR1 rfl rfl g.b_range rfl g.b_tuple (ea_cons (ev_var (i := 6) (nmem_of rfl) rfl (Or.inl rfl)) ea_nil)) ea_nil))))
  (eb_cons (es_set (i := 8) (nmem_of rfl) (nmem_of rfl) sc_law.nd rfl (Or.inl rfl) (ev_ty cd_tup rfl g.b_tuple (by decide +kernel) (ea_cons (ev_bin od_add (ev_f (ef_lstR3 rfl rfl g.b_range rfl g.b_list (ea_cons ev_int (ea_cons (ev_var (i := 6) (nmem_of rfl) rfl (Or.inl rfl)) (ea_cons (ev_var (i := 5) (nmem_of rfl) rfl (Or.inl rfl)) ea_nil))))) (ev_f (ef_lst (ea_cons (ev_var (i := 6) (nmem_of rfl) rfl (Or.inl rfl)) ea_nil)))) ea_nil)))
  (eb_cons (es_ret (ev_call tk (c__law_like g) same0 rfl hr (by decide) rfl (ea_cons (ev_f (ef_lst (ea_cons (ev_call tk (c_yard_cover g) same0 rfl hr (by decide) rfl (ea_cons (ev_var (i := 7) (nmem_of rfl) rfl (Or.inl rfl)) (ea_cons (ev_var (i := 5) (nmem_of rfl) rfl (Or.inl rfl)) ea_nil))) (ea_cons (ev_call tk (c_fewest_pieces g) same0 rfl hr (by decide) rfl (ea_cons (ev_var (i := 7) (nmem_of rfl) rfl (Or.inl rfl)) (ea_cons (ev_var (i := 5) (nmem_of rfl) rfl (Or.inl rfl)) ea_nil))) (ea_cons (ev_call tk (c_longest_good g) same0 rfl hr (by decide) rfl (ea_cons (ev_var (i := 7) (nmem_of rfl) rfl (Or.inl rfl)) (ea_cons (ev_var (i := 5) (nmem_of rfl) rfl (Or.inl rfl)) ea_nil))) ea_nil))))) (ea_cons (ev_f (ef_lst (ea_cons (ev_var (i := 8) (nmem_of rfl) rfl (Or.inl rfl)) (ea_cons (ev_bin od_sub (ev_blt cd_len rfl g.b_len (by decide +kernel) (ea_cons (ev_var (i := 8) (nmem_of rfl) rfl (Or.inl rfl)) ea_nil)) ev_int) (ea_cons (ev_tup (ea_cons ev_int (ea_cons (ev_blt (cd_min2A rfl (hu65 hr)) rfl g.b_min (by decide +kernel) (ea_cons (ev_var (i := 6) (nmem_of rfl) rfl (Or.inl rfl)) (ea_cons (ev_var (i := 5) (nmem_of rfl) rfl (Or.inl rfl)) ea_nil))) ea_nil))) ea_nil))))) ea_nil))))
  eb_nil))))))))))
end
end LK78

namespace LK78
open PySem PySem.Spec L2 SX EV
/-! ### the cup -/
def cup (a b : Int) : D := .lst [.int a, .int b]
def CupI (d : D) : Prop := ∃ a b, d = cup a b ∧ 0 ≤ a ∧ 0 ≤ b ∧ b < 4294967296
theorem CupI.flatC {c : D} (h : CupI c) : c.flatC = true := by
  obtain ⟨a, b, rfl, _⟩ := h
  rfl
theorem rollW {c : D} {n : Int} (hc : CupI c) (hn : 0 < n) (hn2 : n < 1073741824) : Wk (m__law_roll.m [c, .int n]) fun r => Hold (∃ i c', r = (.int i, [c', .int n]) ∧ 0 ≤ i ∧ i < n ∧ CupI c') := by
  obtain ⟨a, b, rfl, ha, hb, hb2⟩ := hc
  rw [me__law_roll]
  by_cases h : 0 < a
  · have cd : L2.CDiv a n := ⟨hn, hn2⟩
    simp (disch := first | omega | (simp <;> omega) | fail) [B__law_roll, cup, at0, at1, h, r_divI cd, setAt, ix0]
    exact .mk ⟨_, _, rfl, Int.emod_nonneg _ (by omega), Int.emod_lt_of_pos _ hn, _, _, rfl, Int.ediv_nonneg ha (by omega), hb, hb2⟩
  · have h0 : a = 0 := by omega
    subst h0
    obtain ⟨b', eb⟩ : ∃ x, x = (b * 31051 + 7993) % 2147483543 := ⟨_, rfl⟩
    have b0 : 0 ≤ b' := by rw [eb]; exact Int.emod_nonneg _ (by decide)
    have b1 : b' < 2147483543 := by rw [eb]; exact Int.emod_lt_of_pos _ (by decide)
    obtain ⟨deep, ed⟩ : ∃ x, x = (b' * (b' + 229)) % 2147483587 := ⟨_, rfl⟩
    have c1 : L2.CMul b 31051 := .inr ⟨by decide, by decide⟩
    have c2 : L2.CMul b' (b' + 229) := .inl ⟨by omega, by omega⟩
    have c3 : L2.CDiv deep 821 := ⟨by decide, by decide⟩
    simp (disch := first | omega | (simp <;> omega) | fail) [B__law_roll, cup, at0, at1, r_mulI c1, ← eb, r_mulI c2, ← ed, r_divI c3, setAt, ix1]
    exact .mk ⟨_, _, rfl, Int.emod_nonneg _ (by omega), Int.emod_lt_of_pos _ hn, _, _, rfl, by omega, b0, by omega⟩
/-- things[roll] -/
theorem ixN_of {n : Nat} {r : Int} (h0 : 0 ≤ r) (h1 : r < n) : ixN n r = some r.toNat := by
  unfold ixN
  rw [if_pos h0, if_pos h1]
theorem atI_of {α : Type} {xs : List α} {r : Int} (h0 : 0 ≤ r) (h1 : r < xs.length) : ∃ x, L2.atI xs r = some x ∧ x ∈ xs := by
  have : r.toNat < xs.length := by omega
  refine ⟨xs[r.toNat], ?_, List.getElem_mem _⟩
  unfold L2.atI
  rw [ixN_of h0 h1]
  show xs[r.toNat]? = _
  exact List.getElem?_eq_getElem this
theorem someW {c : D} {xs : List D} (hc : CupI c) (hn : 0 < xs.length) (hn2 : xs.length < 1073741824) : Wk (m__law_some.m [c, .lst xs]) fun r => Hold (∃ x c', r = (x, [c', .lst xs]) ∧ x ∈ xs ∧ CupI c') := by
  rw [me__law_some]
  simp (disch := first | omega | (simp <;> omega) | fail) [B__law_some]
  refine (rollW hc (by omega) (by omega)).mono ?_
  rintro _ ⟨r, c', rfl, h0, h1, hc'⟩
  obtain ⟨x, hx, hm⟩ := atI_of h0 h1
  simp (disch := first | omega | (simp <;> omega) | fail) [hc'.flatC, hx]
  exact .mk ⟨_, _, rfl, hm, hc'⟩
theorem someT {c : D} {xs : List D} (hc : CupI c) (hn : 0 < xs.length) (hn2 : xs.length < 1073741824) : Wk (m__law_some.m [c, .tup xs]) fun r => Hold (∃ x c', r = (x, [c', .tup xs]) ∧ x ∈ xs ∧ CupI c') := by
  rw [me__law_some]
  simp (disch := first | omega | (simp <;> omega) | fail) [B__law_some]
  refine (rollW hc (by omega) (by omega)).mono ?_
  rintro _ ⟨r, c', rfl, h0, h1, hc'⟩
  obtain ⟨x, hx, hm⟩ := atI_of h0 h1
  simp (disch := first | omega | (simp <;> omega) | fail) [hc'.flatC, hx]
  exact .mk ⟨_, _, rfl, hm, hc'⟩
theorem someS {c : D} {s : List Nat} (hc : CupI c) (hn : 0 < s.length) (hn2 : s.length ≤ 16777216) : Wk (m__law_some.m [c, .str s]) fun r => Hold (∃ x c', r = (.str [x], [c', .str s]) ∧ x ∈ s ∧ CupI c') := by
  rw [me__law_some]
  simp (disch := first | omega | (simp <;> omega) | fail) [B__law_some, r_lenS hn2]
  refine (rollW hc (by omega) (by omega)).mono ?_
  rintro _ ⟨r, c', rfl, h0, h1, hc'⟩
  obtain ⟨x, hx, hm⟩ := atI_of h0 h1
  simp (disch := first | omega | (simp <;> omega) | fail) [hc'.flatC, hx, q_atS _ hn2]
  exact .mk ⟨_, _, rfl, hm, hc'⟩
theorem pow18 : dPow (.int 10) (.int 18) = some (.int 1000000000000000000) := rfl
theorem cupW {ns : List Int} (hl : ns.length ≤ 63) : Wk (mf__law_cup.m [.scr ns]) fun c => CupI c := by
  rw [me__law_cup]
  have hn : ns.length ≤ 16777216 := by omega
  obtain ⟨x, xs, ex⟩ : ∃ x xs, ns ++ [0] = x :: xs := by
    cases ns with
    | nil => exact ⟨0, [], rfl⟩
    | cons a r => exact ⟨a, r ++ [0], rfl⟩
  have ea : dAdd (.lst (ns.map D.int)) (.lst [.int 0]) = some (.lst (.int x :: xs.map D.int)) := by
    rw [r_addL (by simp; omega)]
    have : ns.map D.int ++ [D.int 0] = (ns ++ [0]).map D.int := by simp
    rw [this, ex]
    rfl
  obtain ⟨a, e1⟩ : ∃ a, a = (if x < 0 then -x else x) := ⟨_, rfl⟩
  have a0 : 0 ≤ a := by rw [e1]; split <;> omega
  have c1 : L2.CMul a 283 := .inr ⟨by decide, by decide⟩
  have c2 : L2.CDiv a 73 := ⟨by decide, by decide⟩
  have m0 : 0 ≤ (a * 283 + 3907) % 2077503167 := Int.emod_nonneg _ (by decide)
  have m1 : (a * 283 + 3907) % 2077503167 < 2077503167 := Int.emod_lt_of_pos _ (by decide)
  simp (disch := first | omega | (simp <;> omega) | fail) [B__law_cup, ea, at0, ← e1, pow18]
  by_cases h : 1000000000000000000 ≤ a
  · simp (disch := first | omega | (simp <;> omega) | fail) [h, r_divI c2, r_mulI c1]
    exact ⟨_, _, rfl, Int.ediv_nonneg a0 (by decide), by omega, by omega⟩
  · simp (disch := first | omega | (simp <;> omega) | fail) [h, r_mulI c1]
    exact ⟨_, _, rfl, by omega, by omega, by omega⟩
end LK78

namespace LK78
open PySem PySem.Spec L2 SX EV
/-! ### like -/
def sortN : D → Int
  | .non => 0
  | .bl _ => 1
  | .int _ => 2
  | .str _ => 3
  | .tup _ => 4
  | .lst _ => 5
  | _ => 6
theorem sort_v {d : D} (h : d.lay = true) : m__law_sort.v [d] = .ok (.int (sortN d)) := by
  refine Wk.v ?_
  rw [me__law_sort]
  cases d <;> first | (simp (disch := first | omega | (simp <;> omega) | fail) [B__law_sort, isD, dIs, EV.isNon, sortN]; done) | cases h
theorem like_seqv (n : Nat) (ih : ∀ d : D, d.sm = true → d.dep < n → (mr__law_like n).v [d, d] = .ok (.bl true)) {xs : List D} {d : D} (hd : d = .tup xs ∨ d = .lst xs) (hs : d.sm = true) (hl : d.dep < n + 1) : (mr__law_like (n + 1)).v [d, d] = .ok (.bl true) := by
  have hx : xs.length ≤ 1000 ∧ (∀ x, x ∈ xs → x.sm = true) ∧ depL xs < n := by
    rcases hd with rfl | rfl
    · obtain ⟨a, b⟩ := sm_tup hs
      have : depL xs + 1 < n + 1 := hl
      exact ⟨a, b, by omega⟩
    · have h' : (decide (xs.length ≤ 1000) && smL xs) = true := hs
      rw [Bool.and_eq_true, decide_eq_true_eq] at h'
      have : depL xs + 1 < n + 1 := hl
      exact ⟨h'.1, smL_mem h'.2, by omega⟩
  obtain ⟨h1, h2, h3⟩ := hx
  have eo := sort_v (sm_lay d hs)
  have z2 : zip2 [d, d] = some (xs.map fun t => .tup [t, t]) := by
    rw [← zip_self]
    rcases hd with rfl | rfl <;> rfl
  have len : bLen [d] = some (.int xs.length) := by rcases hd with rfl | rfl <;> rfl
  have ef : xs.filter (fun _ => false) = [] := List.filter_eq_nil_iff.mpr (by simp)
  have e0 := eq_l0 [] rfl
  have e0' := q_eqA e0
  have sn : sortN d = 4 ∨ sortN d = 5 := by
    rcases hd with rfl | rfl
    · exact .inl rfl
    · exact .inr rfl
  refine Wk.v ?_
  rw [mer__law_like]
  rcases sn with sn | sn <;> rw [sn] at eo
  · simp (disch := first | omega | (simp <;> omega) | fail) [B__law_like, eo, eqI0, neI0, in_45, len, z2]
    refine wk_flt2 xs (fun t => t) (fun t => t) (fun _ => false) (fun _ => .int 1) rfl (fun t ht => ?_) ?_
    · have e := ih t (h2 t ht) (Nat.lt_of_le_of_lt (dep_of_mem ht) h3)
      simp (disch := first | omega | (simp <;> omega) | fail) [e]
    · simp (disch := first | omega | (simp <;> omega) | fail) [ef, e0, e0']
  · simp (disch := first | omega | (simp <;> omega) | fail) [B__law_like, eo, eqI0, neI0, in_45, len, z2]
    refine wk_flt2 xs (fun t => t) (fun t => t) (fun _ => false) (fun _ => .int 1) rfl (fun t ht => ?_) ?_
    · have e := ih t (h2 t ht) (Nat.lt_of_le_of_lt (dep_of_mem ht) h3)
      simp (disch := first | omega | (simp <;> omega) | fail) [e]
    · simp (disch := first | omega | (simp <;> omega) | fail) [ef, e0, e0']
theorem like_refl : ∀ (n : Nat) (d : D), d.sm = true → d.dep < n → (mr__law_like n).v [d, d] = .ok (.bl true)
  | 0, _, _, h => absurd h (Nat.not_lt_zero _)
  | n + 1, d, hs, hl => by
    by_cases ht : ∃ xs, d = .tup xs
    · obtain ⟨xs, e⟩ := ht
      exact like_seqv n (like_refl n) (.inl e) hs hl
    · by_cases hl2 : ∃ xs, d = .lst xs
      · obtain ⟨xs, e⟩ := hl2
        exact like_seqv n (like_refl n) (.inr e) hs hl
      · have es := eq_self0 d (sm_lay d hs) ht hl2
        have es' := q_eqA es
        have eo := sort_v (sm_lay d hs)
        have sn : sortN d = 0 ∨ sortN d = 1 ∨ sortN d = 2 ∨ sortN d = 3 := by
          cases d <;> first | (exact .inl rfl) | (exact .inr (.inl rfl)) | (exact .inr (.inr (.inl rfl))) | (exact .inr (.inr (.inr rfl))) | (exact absurd ⟨_, rfl⟩ ht) | (exact absurd ⟨_, rfl⟩ hl2) | cases hs
        refine Wk.v ?_
        rw [mer__law_like]
        rcases sn with sn | sn | sn | sn <;> rw [sn] at eo <;> simp (disch := first | omega | (simp <;> omega) | fail) [B__law_like, eo, eqI0, neI0, in_45, es, es']
theorem like_v {d : D} (hs : d.sm = true) (hl : d.dep < 8) : m__law_like.v [d, d] = .ok (.bl true) := like_refl 8 d hs hl
end LK78

namespace LK78
/-! ### plain: lengths with faults, covers -/
def flt (ys : List Int) (a b : Int) : Nat := (ys.filter fun y => decide (a ≤ y) && decide (y < b)).length
theorem flt_nil (a b : Int) : flt [] a b = 0 := rfl
theorem flt_cons (y : Int) (ys : List Int) (a b : Int) : flt (y :: ys) a b = (if a ≤ y ∧ y < b then 1 else 0) + flt ys a b := by
  unfold flt
  rw [List.filter_cons]
  by_cases h : a ≤ y ∧ y < b
  · rw [if_pos h, if_pos (by rw [decide_eq_true h.1, decide_eq_true h.2]; rfl), List.length_cons]
    omega
  · rw [if_neg h, if_neg (by
      intro z
      rw [Bool.and_eq_true, decide_eq_true_eq, decide_eq_true_eq] at z
      exact h z)]
    omega
theorem flt_split (ys : List Int) {a b c : Int} (h1 : a ≤ b) (h2 : b ≤ c) : flt ys a c = flt ys a b + flt ys b c := by
  induction ys with
  | nil => rfl
  | cons y ys ih =>
    rw [flt_cons, flt_cons, flt_cons, ih]
    by_cases p : a ≤ y ∧ y < c
    · by_cases q : y < b
      · rw [if_pos p, if_pos ⟨p.1, q⟩, if_neg (by omega)]; omega
      · rw [if_pos p, if_neg (by omega), if_pos (by omega)]; omega
    · rw [if_neg p, if_neg (by omega), if_neg (by omega)]; omega
theorem flt_self (ys : List Int) (a : Int) : flt ys a a = 0 := by
  induction ys with
  | nil => rfl
  | cons y ys ih => rw [flt_cons, ih, if_neg (by omega)]
theorem flt_one (ys : List Int) (a : Int) : flt ys a (a + 1) = ys.count a := by
  induction ys with
  | nil => rfl
  | cons y ys ih =>
    rw [flt_cons, List.count_cons, ih]
    by_cases h : y = a
    · subst h
      rw [if_pos (by omega), beq_self_eq_true, if_pos rfl]
      omega
    · rw [if_neg (by omega), if_neg (by simpa using h)]
      omega
theorem flt_le (ys : List Int) {a b c d : Int} (h1 : a ≤ b) (h2 : b ≤ c) (h3 : c ≤ d) : flt ys b c ≤ flt ys a d := by
  rw [flt_split ys h1 (show b ≤ d by omega), flt_split ys h2 h3]
  omega
section
variable (ys : List Int) (B n : Int)
abbrev gd (a b : Int) : Prop := (flt ys a b : Int) ≤ B
/-- a chain of k good pieces from 0 to e -/
inductive Ch : Nat → Int → Prop
  | zero : Ch 0 0
  | step {k : Nat} {s e : Int} : Ch k s → s < e → gd ys B s e → Ch (k + 1) e
/-- the least -/
def IsL (o : Option Nat) (P : Nat → Prop) : Prop := match o with
  | none => ∀ k, ¬ P k
  | some m => P m ∧ ∀ k, P k → m ≤ k
theorem IsL.uniq {o o' : Option Nat} {P : Nat → Prop} (h : IsL o P) (h' : IsL o' P) : o = o' := by
  cases o with
  | none =>
    cases o' with
    | none => rfl
    | some m => exact absurd h'.1 (h m)
  | some m =>
    cases o' with
    | none => exact absurd h.1 (h' m)
    | some m' => rw [Nat.le_antisymm (h.2 m' h'.1) (h'.2 m h.1)]
/-- the greatest good end -/
def Mx (e E : Int) : Prop := e < E ∧ E ≤ n ∧ gd ys B e E ∧ ∀ x, e < x → x ≤ n → gd ys B e x → x ≤ E
/-- the greedy way -/
inductive Gr : Int → List Int → Option (List Int) → Prop
  | done {f : List Int} : Gr n f (some f)
  | stop {e : Int} {f : List Int} : e < n → (∀ x, e < x → x ≤ n → ¬ gd ys B e x) → Gr e f none
  | step {e E : Int} {f : List Int} {r : Option (List Int)} : Mx ys B n e E → Gr E (f ++ [E]) r → Gr e f r
end
section
variable {ys : List Int} {B n : Int}
theorem Mx.uniq {e E E' : Int} (h : Mx ys B n e E) (h' : Mx ys B n e E') : E = E' := by
  have := h.2.2.2 E' h'.1 h'.2.1 h'.2.2.1
  have := h'.2.2.2 E h.1 h.2.1 h.2.2.1
  omega
theorem Gr.uniq {e : Int} {f : List Int} {r r' : Option (List Int)} (h : Gr ys B n e f r) : Gr ys B n e f r' → r = r' := by
  induction h with
  | done =>
    intro h'
    cases h' with
    | done => rfl
    | stop h => omega
    | step h => exact absurd h.1 (by have := h.2.1; omega)
  | stop h1 h2 =>
    intro h'
    cases h' with
    | done => omega
    | stop => rfl
    | step h => exact absurd h.2.2.1 (h2 _ h.1 h.2.1)
  | step h1 _ ih =>
    intro h'
    cases h' with
    | done => exact absurd h1.1 (by have := h1.2.1; omega)
    | stop h3 h4 => exact absurd h1.2.2.1 (h4 _ h1.1 h1.2.1)
    | step h3 h4 =>
      obtain rfl := h1.uniq h3
      exact ih h4
theorem Ch.nonneg {k : Nat} {e : Int} (h : Ch ys B k e) : 0 ≤ e := by
  induction h with
  | zero => exact Int.le_refl _
  | step _ h1 _ ih => omega
theorem gr_least {e : Int} {f : List Int} {r : Option (List Int)} (h : Gr ys B n e f r) : ∀ j : Nat, f.length = j + 1 → Ch ys B j e → e ≤ n → (∀ k x, Ch ys B k x → x ≤ n → k ≤ j → x ≤ e) → (∀ k x, Ch ys B k x → x ≤ n → k < j → x < n) → IsL (r.map fun l => l.length - 1) (fun k => Ch ys B k n) := by
  induction h with
  | @done f =>
    intro j hl hc _ h1 h2
    show Ch ys B (f.length - 1) n ∧ ∀ k, Ch ys B k n → f.length - 1 ≤ k
    rw [hl]
    refine ⟨hc, fun k hk => ?_⟩
    rcases Nat.lt_or_ge k j with h | h
    · have := h2 k n hk (Int.le_refl _) h; omega
    · exact h
  | @stop e f he hs =>
    intro j hl hc _ h1 h2
    show ∀ k, ¬ Ch ys B k n
    have all : ∀ k x, Ch ys B k x → x ≤ e := by
      intro k x hk
      induction hk with
      | zero => exact hc.nonneg
      | @step k s x hk hsx hg ih =>
        rcases Int.lt_or_le e x with h | h
        · exact absurd (show gd ys B e (e + 1) from Int.le_trans (Int.ofNat_le.mpr (flt_le ys ih (by omega) (by omega))) hg) (hs _ (by omega) (by omega))
        · exact h
    intro k hk
    have := all k n hk
    omega
  | @step e E f r hm _ ih =>
    intro j hl hc hen h1 h2
    refine ih (j + 1) (by rw [List.length_append, hl]; rfl) (.step hc hm.1 hm.2.2.1) hm.2.1 (fun k x hk hx hkj => ?_) (fun k x hk hx hkj => ?_)
    · rcases Nat.lt_or_ge j k with h | h
      · obtain rfl : k = j + 1 := by omega
        cases hk with
        | @step _ s _ hk' hsx hg =>
          have hse : s ≤ e := h1 j s hk' (by omega) (Nat.le_refl _)
          rcases Int.lt_or_le e x with h3 | h3
          · exact hm.2.2.2 x h3 hx (Int.le_trans (Int.ofNat_le.mpr (flt_le ys hse (by omega) (Int.le_refl _))) hg)
          · have := hm.1; omega
      · have := h1 k x hk hx h
        have := hm.1
        omega
    · have := h1 k x hk hx (by omega)
      have := hm.1
      have := hm.2.1
      omega
theorem gr_fewest {r : Option (List Int)} (h0 : 0 ≤ n) (h : Gr ys B n 0 [0] r) : IsL (r.map fun l => l.length - 1) (fun k => Ch ys B k n) :=
  gr_least h 0 rfl .zero h0 (fun k x hk _ hk0 => by
    obtain rfl : k = 0 := by omega
    cases hk
    exact Int.le_refl _) (fun _ _ _ _ h => absurd h (Nat.not_lt_zero _))
/-- one more end of the table -/
theorem ch_step {k : Nat} {e : Int} (he : 0 < e) : Ch ys B k e ↔ ∃ j s, k = j + 1 ∧ Ch ys B j s ∧ 0 ≤ s ∧ s < e ∧ gd ys B s e := by
  constructor
  · intro h
    cases h with
    | zero => omega
    | step h1 h2 h3 => exact ⟨_, _, rfl, h1, h1.nonneg, h2, h3⟩
  · rintro ⟨j, s, rfl, h1, _, h2, h3⟩
    exact .step h1 h2 h3
end
/-! the longest good piece -/
def LG (ys : List Int) (B n : Int) (o : Option (Int × Int)) : Prop := match o with
  | none => ∀ s e, 0 ≤ s → s < e → e ≤ n → ¬ gd ys B s e
  | some p => 0 ≤ p.1 ∧ p.1 < p.2 ∧ p.2 ≤ n ∧ gd ys B p.1 p.2 ∧ ∀ s e, 0 ≤ s → s < e → e ≤ n → gd ys B s e → e - s ≤ p.2 - p.1 ∧ (e - s = p.2 - p.1 → p.1 ≤ s)
theorem LG.uniq {ys : List Int} {B n : Int} {o o' : Option (Int × Int)} (h : LG ys B n o) (h' : LG ys B n o') : o = o' := by
  cases o with
  | none =>
    cases o' with
    | none => rfl
    | some p => exact absurd h'.2.2.2.1 (h _ _ h'.1 h'.2.1 h'.2.2.1)
  | some p =>
    cases o' with
    | none => exact absurd h.2.2.2.1 (h' _ _ h.1 h.2.1 h.2.2.1)
    | some q =>
      obtain ⟨a1, a2, a3, a4, a5⟩ := h
      obtain ⟨b1, b2, b3, b4, b5⟩ := h'
      have c1 := a5 q.1 q.2 b1 b2 b3 b4
      have c2 := b5 p.1 p.2 a1 a2 a3 a4
      have e1 : p.2 - p.1 = q.2 - q.1 := by omega
      have c3 := c1.2 e1.symm
      have c4 := c2.2 e1
      have e2 : p.1 = q.1 := by omega
      have e3 : p.2 = q.2 := by omega
      congr 1
      exact Prod.ext e2 e3
end LK78

namespace LK78
open PySem PySem.Spec L2 SX EV
theorem whole_v {i lo hi : Int} (h1 : lo ≤ i) (h2 : i ≤ hi) : m_is_whole.v [.int i, .int lo, .int hi] = .ok (.bl true) := by
  refine Wk.v ?_
  rw [me_is_whole]
  have i0 : isD 0 (.int i) = some true := rfl
  have i1 : isD 1 (.int i) = some false := rfl
  simp (disch := first | omega | (simp <;> omega) | fail) [B_is_whole, i0, i1, h1, h2]
theorem tupof_v {xs : List D} {lo hi : Int} (h1 : lo ≤ xs.length) (h2 : (xs.length : Int) ≤ hi) : m_is_tuple_of.v [.tup xs, .int lo, .int hi] = .ok (.bl true) := by
  refine Wk.v ?_
  rw [me_is_tuple_of]
  have i3 : isD 3 (.tup xs) = some true := rfl
  simp (disch := first | omega | (simp <;> omega) | fail) [B_is_tuple_of, i3, h1, h2]
theorem cut_take {α : Type} {xs : List α} {i : Int} (h : 0 ≤ i) : cut xs none (some i) = xs.take i.toNat := by
  obtain ⟨k, rfl⟩ : ∃ k : Nat, i = k := ⟨i.toNat, by omega⟩
  unfold cut
  rw [HT.sIx_nat, show HT.sIx xs.length 0 none = 0 from rfl, List.drop_zero, Int.toNat_natCast, Nat.sub_zero]
  rcases Nat.le_total k xs.length with h | h
  · rw [Nat.min_eq_left h]
  · rw [Nat.min_eq_right h, List.take_of_length_le (Nat.le_refl _), List.take_of_length_le h]
theorem cut_drop {α : Type} {xs : List α} {i : Int} (h : 0 ≤ i) : cut xs (some i) none = xs.drop i.toNat := by
  obtain ⟨k, rfl⟩ : ∃ k : Nat, i = k := ⟨i.toNat, by omega⟩
  unfold cut
  rw [HT.sIx_nat, show HT.sIx xs.length xs.length none = xs.length from rfl, Int.toNat_natCast]
  rcases Nat.le_total k xs.length with h | h
  · rw [Nat.min_eq_left h, List.take_of_length_le (by rw [List.length_drop]; exact Nat.le_refl _)]
  · rw [Nat.min_eq_right h, List.drop_eq_nil_of_le (Nat.le_refl _), List.drop_eq_nil_of_le h, List.take_nil]
theorem allT_fact {α : Type} (xs : List α) : bAll [.lst (xs.map fun _ => .bl true)] = some (.bl true) := by
  have := all_map (fun _ => true) xs
  rw [List.all_eq_true.mpr fun _ _ => rfl] at this
  exact this
/-- neighbours -/
def prs (ys : List Int) : List (Int × Int) := ys.zip (ys.drop 1)
theorem zip_prs : ∀ (xs ys : List Int), zipL (xs.map D.int) (ys.map D.int) = (xs.zip ys).map fun p => .tup [.int p.1, .int p.2]
  | [], ys => by cases ys <;> rfl
  | _ :: _, [] => rfl
  | h :: hs, s :: c => by
    show _ :: zipL (hs.map D.int) (c.map D.int) = _ :: (hs.zip c).map _
    rw [zip_prs hs c]
theorem prs_of {R : Int → Int → Prop} : ∀ {ys : List Int}, ys.Pairwise R → ∀ p, p ∈ prs ys → R p.1 p.2
  | [], _, p, h => by cases h
  | [a], _, p, h => by cases h
  | a :: b :: r, hp, p, h => by
    obtain ⟨h1, h2⟩ := List.pairwise_cons.mp hp
    have h' : p ∈ (a, b) :: prs (b :: r) := h
    rcases List.mem_cons.mp h' with rfl | h'
    · exact h1 b List.mem_cons_self
    · exact prs_of h2 p h'
theorem zip2_prs (ys : List Int) : zip2 [.tup (ys.map D.int), .tup ((ys.drop 1).map D.int)] = some ((prs ys).map fun p => .tup [.int p.1, .int p.2]) := by
  show some (zipL _ _) = _
  rw [zip_prs]
  rfl
theorem sl1_fact (ys : List Int) : dSl (.tup (ys.map D.int)) (some 1) none = some (.tup ((ys.drop 1).map D.int)) := by
  show some (D.tup (cut _ _ _)) = _
  rw [cut_drop (by decide), List.map_drop]
  rfl
structure LenP (n : Int) (ys : List Int) : Prop where
  lo : 1 ≤ n
  hi : n ≤ 60
  sz : ys.length ≤ 40
  bd : ∀ y, y ∈ ys → 0 ≤ y ∧ y < n
  srt : ys.Pairwise (· ≤ ·)
  few : ∀ y, ys.count y ≤ 3
def lenD (n : Int) (ys : List Int) : D := .tup [.int n, .tup (ys.map D.int)]
variable {n B : Int} {ys : List Int}
theorem len0 : dAt (lenD n ys) (.int 0) = some (.int n) := rfl
theorem len1 : dAt (lenD n ys) (.int 1) = some (.tup (ys.map D.int)) := rfl
theorem cnt_fact (k : Int) : dCnt (.tup (ys.map D.int)) (.int k) = some (.int (ys.count k : Nat)) := by
  show (dInts (ys.map D.int)).map _ = _
  rw [ids]
  rfl
theorem fits_v (h : LenP n ys) : m_fits_lengths.v [lenD n ys] = .ok (.bl true) := by
  refine Wk.v ?_
  rw [me_fits_lengths]
  have h1 := h.lo
  have h2 := h.hi
  have h3 := h.sz
  have t0 : m_is_tuple_of.v [lenD n ys, .int 2, .int 2] = .ok (.bl true) := tupof_v (xs := [.int n, .tup (ys.map D.int)]) (show (2 : Int) ≤ 2 by decide) (show (2 : Int) ≤ 2 by decide)
  have w0 := whole_v h1 h2
  have lT : (ys.map D.int).length = ys.length := List.length_map ..
  have t1 := tupof_v (xs := ys.map D.int) (lo := 0) (hi := 40) (by omega) (by omega)
  have a1 := allT_fact ys
  have sl := sl1_fact ys
  have zp := zip2_prs ys
  have a2 := allT_fact (prs ys)
  have lP : (prs ys).length ≤ 40 := by unfold prs; rw [List.length_zip]; omega
  have l0 := len0 (n := n) (ys := ys)
  have l1 := len1 (n := n) (ys := ys)
  have ct := cnt_fact (ys := ys)
  generalize lenD n ys = L at *
  obtain ⟨T, eT⟩ : ∃ T, ys.map D.int = T := ⟨_, rfl⟩
  obtain ⟨T1, eT1⟩ : ∃ T, (ys.drop 1).map D.int = T := ⟨_, rfl⟩
  rw [eT] at lT t1 sl zp l1 ct
  rw [eT1] at sl zp
  simp (disch := first | omega | (simp <;> omega) | fail) [B_fits_lengths, t0, w0, t1, l0, l1]
  refine wk_map1 ys D.int (fun _ => .bl true) eT.symm (fun y hy => ?_) ?_
  · have := h.bd y hy
    have := whole_v (i := y) (lo := 0) (hi := n - 1) (by omega) (by omega)
    simp (disch := first | omega | (simp <;> omega) | fail) [l0, this]
  simp (disch := first | omega | (simp <;> omega) | fail) [a1, l0, l1, sl, zp]
  refine wk_map2 (prs ys) (fun p => .int p.1) (fun p => .int p.2) (fun _ => .bl true) rfl (fun p hp => ?_) ?_
  · have := prs_of h.srt p hp
    simp (disch := first | omega | (simp <;> omega) | fail) [this]
  simp (disch := first | omega | (simp <;> omega) | fail) [a2, l1]
  refine wk_map1 ys D.int (fun _ => .bl true) eT.symm (fun y hy => ?_) ?_
  · have := h.few y
    have : ((ys.count y : Nat) : Int) ≤ 3 := by omega
    simp (disch := first | omega | (simp <;> omega) | fail) [l1, ct, this]
  simp (disch := first | omega | (simp <;> omega) | fail) [a1]
theorem need_len_v (h : LenP n ys) : m_need_lengths.v [lenD n ys] = .ok .non := by
  refine Wk.v ?_
  rw [me_need_lengths]
  have f := fits_v h
  generalize lenD n ys = L at *
  simp (disch := first | omega | (simp <;> omega) | fail) [B_need_lengths, f]
theorem need_bound_v (h : LenP n ys) (b0 : 0 ≤ B) (b1 : B ≤ 120) : m_need_bound.v [lenD n ys, .int B] = .ok .non := by
  refine Wk.v ?_
  rw [me_need_bound]
  have f := need_len_v h
  have w := whole_v b0 b1
  generalize lenD n ys = L at *
  simp (disch := first | omega | (simp <;> omega) | fail) [B_need_bound, f, w]
theorem need_span_v {s e : Int} (h : LenP n ys) (h0 : 0 ≤ s) (h1 : s < e) (h2 : e ≤ n) : m_need_span.v [lenD n ys, .int s, .int e] = .ok .non := by
  refine Wk.v ?_
  rw [me_need_span]
  have w1 := whole_v (i := s) (lo := 0) (hi := n - 1) (by omega) (by omega)
  have w2 := whole_v (i := e) (lo := s + 1) (hi := n) (by omega) (by omega)
  have l0 := len0 (n := n) (ys := ys)
  generalize lenD n ys = L at *
  simp (disch := first | omega | (simp <;> omega) | fail) [B_need_span, w1, w2, l0]
/-! sums -/
def sumsL (ys : List Int) (m : Nat) : List D := (List.range m).map fun (k : Nat) => .int (flt ys 0 (k : Int) : Nat)
theorem sumsL_len (ys : List Int) (m : Nat) : (sumsL ys m).length = m := by unfold sumsL; rw [List.length_map, List.length_range]
theorem sumsL_snoc (ys : List Int) (m : Nat) : sumsL ys (m + 1) = sumsL ys m ++ [.int (flt ys 0 (m : Int) : Nat)] := by
  unfold sumsL
  rw [List.range_succ, List.map_append]
  rfl
theorem sumsL_at {m : Nat} {i : Int} (h0 : 0 ≤ i) (h1 : i < m) : L2.atI (sumsL ys m) i = some (.int (flt ys 0 i : Nat)) := by
  unfold sumsL
  rw [at_map (f := fun (k : Nat) => D.int (flt ys 0 (k : Int) : Nat)) h0 (by rw [List.length_range]; exact h1), nth_get (by rw [List.length_range]; omega), List.getElem_range, Int.toNat_of_nonneg h0]
theorem sumsL_last {m : Nat} : L2.atI (sumsL ys (m + 1)) (-1) = some (.int (flt ys 0 (m : Int) : Nat)) := by
  unfold L2.atI ixN
  rw [sumsL_len, if_neg (by decide), if_pos (by omega)]
  have := sumsL_at (ys := ys) (m := m + 1) (i := (m : Int)) (by omega) (by omega)
  unfold L2.atI ixN at this
  rw [sumsL_len, if_pos (by omega), if_pos (by omega)] at this
  rw [show ((-1 : Int) + (m + 1 : Nat)).toNat = ((m : Int)).toNat by omega]
  exact this
theorem sums_v (h : LenP n ys) : m_sums_of.v [lenD n ys] = .ok (.lst (sumsL ys (n.toNat + 1))) := by
  refine Wk.v ?_
  rw [me_sums_of]
  have h1 := h.lo
  have h2 := h.hi
  have l0 := len0 (n := n) (ys := ys)
  have l1 := len1 (n := n) (ys := ys)
  have ct := cnt_fact (ys := ys)
  have s1 : [D.int 0] = sumsL ys (0 + 1) := by
    show _ = [D.int (flt ys 0 0 : Nat)]
    rw [flt_self]
    rfl
  generalize lenD n ys = L at *
  generalize ys.map D.int = T at *
  simp (disch := first | omega | (simp <;> omega) | fail) [B_sums_of, l0, r_rng1]
  refine wk_forN n.toNat (fun k => .int k) (fun k ρ => ∃ x2, ρ = [some L, some (.lst (sumsL ys (k + 1))), x2]) rfl ⟨none, by rw [← s1]⟩ ?_ ?_
  · rintro k ρ hk ⟨x2, rfl⟩
    have la := sumsL_last (ys := ys) (m := k)
    have ln := sumsL_len ys (k + 1)
    have e1 : ((flt ys 0 (k : Int) : Nat) : Int) + ((ys.count (k : Int) : Nat) : Int) = (flt ys 0 ((k : Int) + 1) : Nat) := by
      rw [← flt_one, flt_split ys (show (0 : Int) ≤ k by omega) (show (k : Int) ≤ (k : Int) + 1 by omega)]
      omega
    have e2 := sumsL_snoc ys (k + 1)
    rw [show ((k + 1 : Nat) : Int) = (k : Int) + 1 by omega] at e2
    generalize sumsL ys (k + 1) = Sk at *
    simp (disch := first | omega | (simp <;> omega) | fail) [la, l1, ct, r_addTo, e1]
    exact .mk ⟨some (.int k), by rw [e2]; rfl⟩
  · rintro ρ ⟨x2, rfl⟩
    generalize sumsL ys (n.toNat + 1) = Sk at *
    simp (disch := first | omega | (simp <;> omega) | fail) [isLive]
theorem good_v {s e : Int} (h0 : 0 ≤ s) (h1 : s ≤ e) (h2 : e ≤ n) : m_is_good.v [.lst (sumsL ys (n.toNat + 1)), .int B, .int s, .int e] = .ok (.bl (decide (gd ys B s e))) := by
  refine Wk.v ?_
  rw [me_is_good]
  have a1 := sumsL_at (ys := ys) (m := n.toNat + 1) (i := s) h0 (by omega)
  have a2 := sumsL_at (ys := ys) (m := n.toNat + 1) (i := e) (by omega) (by omega)
  have e1 : decide (((flt ys 0 e : Nat) : Int) - ((flt ys 0 s : Nat) : Int) ≤ B) = decide (gd ys B s e) := by
    have := flt_split ys h0 h1
    rw [Bool.eq_iff_iff, decide_eq_true_eq, decide_eq_true_eq]
    unfold gd
    omega
  generalize sumsL ys (n.toNat + 1) = Sk at *
  simp (disch := first | omega | (simp <;> omega) | fail) [B_is_good, a1, a2, e1]
theorem lfaults_v (h : ys.length ≤ 1000) (a b : Int) : m__law_faults.v [lenD n ys, .int a, .int b] = .ok (.int (flt ys a b : Nat)) := by
  refine Wk.v ?_
  rw [me__law_faults]
  have l1 := len1 (n := n) (ys := ys)
  generalize lenD n ys = L at *
  have lF : (ys.filter fun y => decide (a ≤ y) && decide (y < b)).length = flt ys a b := rfl
  obtain ⟨T, eT⟩ : ∃ T, ys.map D.int = T := ⟨_, rfl⟩
  have lT : T.length = ys.length := by rw [← eT, List.length_map]
  rw [eT] at l1
  simp (disch := first | omega | (simp <;> omega) | fail) [B__law_faults, l1]
  refine wk_flt1 ys D.int (fun y => decide (a ≤ y) && decide (y < b)) D.int eT.symm (fun y hy => ?_) ?_
  · by_cases c1 : a ≤ y
    · by_cases c2 : y < b
      · simp (disch := first | omega | (simp <;> omega) | fail) [c1, c2]
      · simp (disch := first | omega | (simp <;> omega) | fail) [c1, c2]
    · simp (disch := first | omega | (simp <;> omega) | fail) [c1]
  · have : ((ys.filter fun y => decide (a ≤ y) && decide (y < b)).map D.int).length = flt ys a b := by rw [List.length_map, lF]
    generalize (ys.filter fun y => decide (a ≤ y) && decide (y < b)).map D.int = F at *
    simp (disch := first | omega | (simp <;> omega) | fail) [this]
end LK78


namespace LK78
open PySem PySem.Spec L2 SX EV
/-! ### small facts -/
theorem rin_of' {i : Int} (h0 : -1000000 ≤ i) (h1 : i ≤ 1000000) : rin i = true := by
  unfold rin
  rw [decide_eq_true (by omega), decide_eq_true (by omega)]
  rfl
theorem r_rng2 {i j : Int} (h0 : -1000000 ≤ i) (h1 : i ≤ 1000000) (h2 : -1000000 ≤ j) (h3 : j ≤ 1000000) : rng2 [.int i, .int j] = some ((List.range (j - i).toNat).map fun (k : Nat) => D.int (i + k)) := by
  show (bif rin i && rin j then some (rng i 1 (j - i).toNat) else none) = _
  rw [rin_of' h0 h1, rin_of' h2 h3]
  show some (rng i 1 (j - i).toNat) = _
  unfold rng
  congr 1
  refine List.map_congr_left fun k _ => ?_
  rw [Int.mul_one]
theorem last_at (g : List Int) (e : Int) : L2.atI ((g ++ [e]).map D.int) (-1) = some (.int e) := by
  rw [atI_map]
  unfold L2.atI ixN
  rw [if_neg (by decide), List.length_append, List.length_singleton, if_pos (by omega)]
  show ((g ++ [e])[_]?).map D.int = _
  rw [show ((-1 : Int) + (g.length + 1 : Nat)).toNat = g.length by omega, List.getElem?_append_right (Nat.le_refl _), Nat.sub_self]
  rfl
theorem eqL0 (xs : List Int) : dEqA (.lst (xs.map D.int)) (.lst []) = some (.bl xs.isEmpty) := by
  rw [q_eqA (eq_l0 _ (lay_ints0 xs))]
  cases xs <;> rfl
theorem neL0 (xs : List Int) : dNeA (.lst (xs.map D.int)) (.lst []) = some (.bl (!xs.isEmpty)) := by
  rw [q_neA (ne_l0 _ (lay_ints0 xs))]
  cases xs <;> rfl
theorem snoc_of {α : Type} {xs : List α} (h : xs.isEmpty = false) : ∃ g e, xs = g ++ [e] := by
  have hne : xs ≠ [] := fun z => by rw [z] at h; cases h
  exact ⟨xs.dropLast, xs.getLast hne, (List.dropLast_concat_getLast hne).symm⟩
def optL : Option (List Int) → D
  | none => .non
  | some l => .tup (l.map D.int)
variable {n B : Int} {ys : List Int}
/-- the good ends -/
def ends (ys : List Int) (B n e : Int) : List Int := ((List.range (n - e).toNat).filter fun (k : Nat) => decide (gd ys B e (e + 1 + k))).map fun (k : Nat) => e + 1 + (k : Int)
theorem ends_mem {e x : Int} : x ∈ ends ys B n e ↔ e < x ∧ x ≤ n ∧ gd ys B e x := by
  unfold ends
  rw [List.mem_map]
  constructor
  · rintro ⟨k, hk, rfl⟩
    rw [List.mem_filter, List.mem_range, decide_eq_true_eq] at hk
    exact ⟨by omega, by omega, hk.2⟩
  · rintro ⟨h1, h2, h3⟩
    refine ⟨(x - e - 1).toNat, List.mem_filter.mpr ⟨List.mem_range.mpr (by omega), decide_eq_true ?_⟩, by omega⟩
    rw [show e + 1 + (((x - e - 1).toNat : Nat) : Int) = x by omega]
    exact h3
theorem ends_pw {e : Int} : (ends ys B n e).Pairwise (· < ·) := by
  unfold ends
  refine List.Pairwise.map _ (fun a b h => ?_) (List.Pairwise.filter _ List.pairwise_lt_range)
  omega
theorem ends_last {e E : Int} {g : List Int} (h : ends ys B n e = g ++ [E]) : Mx ys B n e E := by
  have hm : E ∈ ends ys B n e := by rw [h]; simp
  obtain ⟨h1, h2, h3⟩ := ends_mem.mp hm
  refine ⟨h1, h2, h3, fun x x1 x2 x3 => ?_⟩
  have hx := ends_mem.mpr ⟨x1, x2, x3⟩
  have pw := ends_pw (ys := ys) (B := B) (n := n) (e := e)
  rw [h] at hx pw
  rcases List.mem_append.mp hx with hx | hx
  · have := (List.pairwise_append.mp pw).2.2 x hx E (by simp)
    omega
  · rw [List.mem_singleton.mp hx]
    exact Int.le_refl _
theorem ends_nil {e : Int} (h : ends ys B n e = []) (x : Int) (h1 : e < x) (h2 : x ≤ n) : ¬ gd ys B e x := fun h3 => by
  have := ends_mem.mpr ⟨h1, h2, h3⟩
  rw [h] at this
  cases this
/-! ### the program's cover -/
theorem cover_v (h : LenP n ys) : ∃ r, Gr ys B n 0 [0] r ∧ (∀ l, r = some l → l ≠ [] ∧ l.length ≤ 61) ∧ m_cover_in.v [lenD n ys, .int B] = .ok (optL r) := by
  suffices hw : Wk (m_cover_in.m [lenD n ys, .int B]) fun r => ∃ o, Gr ys B n 0 [0] o ∧ (∀ l, o = some l → l ≠ [] ∧ l.length ≤ 61) ∧ r.1 = optL o by
    obtain ⟨d, e, o, h1, h2, h3⟩ := Wk.v' (P := fun d => ∃ o, Gr ys B n 0 [0] o ∧ (∀ l, o = some l → l ≠ [] ∧ l.length ≤ 61) ∧ d = optL o) hw
    exact ⟨o, h1, h2, by rw [e, h3]⟩
  rw [me_cover_in]
  have h1 := h.lo
  have h2 := h.hi
  have l0 := len0 (n := n) (ys := ys)
  have sv := sums_v h
  have gv := fun (s e : Int) => good_v (ys := ys) (B := B) (n := n) (s := s) (e := e)
  generalize lenD n ys = L at *
  generalize sumsL ys (n.toNat + 1) = Sm at *
  simp (disch := first | omega | (simp <;> omega) | fail) [B_cover_in, sv]
  refine wk_while (fun m ρ => ∃ e g x4, m = (n - e).toNat ∧ 0 ≤ e ∧ e ≤ n ∧ (g.length : Int) ≤ e ∧ (∀ r, Gr ys B n e (g ++ [e]) r → Gr ys B n 0 [0] r) ∧ ρ = [some L, some (.int B), some (.lst Sm), some (.lst ((g ++ [e]).map D.int)), x4, none]) ?_ _ _ _ ⟨0, [], none, rfl, Int.le_refl _, by omega, Int.le_refl _, fun _ h => h, rfl⟩ (show (n - 0).toNat < 100000 by omega)
  rintro m ρ ⟨e, g, x4, hm, e0, e1, gl, hg, rfl⟩
  have la := last_at g e
  have lf : ((g ++ [e]).map D.int).length ≤ 61 := by rw [List.length_map, List.length_append, List.length_singleton]; omega
  obtain ⟨F, eF⟩ : ∃ F, (g ++ [e]).map D.int = F := ⟨_, rfl⟩
  rw [eF] at la lf ⊢
  by_cases he : e < n
  · simp (disch := first | omega | (simp <;> omega) | fail) [la, l0, he]
    have rg := r_rng2 (i := e + 1) (j := n + 1) (by omega) (by omega) (by omega) (by omega)
    rw [show (n + 1 - (e + 1)).toNat = (n - e).toNat by omega] at rg
    simp (disch := first | omega | (simp <;> omega) | fail) [rg]
    refine wk_flt1 (List.range (n - e).toNat) (fun (k : Nat) => .int (e + 1 + k)) (fun (k : Nat) => decide (gd ys B e (e + 1 + k))) (fun (k : Nat) => .int (e + 1 + k)) rfl (fun k hk => ?_) ?_
    · have hk := List.mem_range.mp hk
      have := gv e (e + 1 + k) e0 (by omega) (by omega)
      simp (disch := first | omega | (simp <;> omega) | fail) [la, this]
    have ee : ((List.range (n - e).toNat).filter fun (k : Nat) => decide (gd ys B e (e + 1 + k))).map (fun (k : Nat) => D.int (e + 1 + k)) = (ends ys B n e).map D.int := by unfold ends; rw [List.map_map]; rfl
    rw [ee]
    have q0 := eqL0 (ends ys B n e)
    cases z : (ends ys B n e).isEmpty with
    | true =>
      rw [z] at q0
      have zn : ends ys B n e = [] := List.isEmpty_iff.mp z
      generalize (ends ys B n e).map D.int = En at *
      simp (disch := first | omega | (simp <;> omega) | fail) [q0]
      exact ⟨none, hg _ (.stop he (ends_nil zn)), (fun _ h => nomatch h), rfl⟩
    | false =>
      rw [z] at q0
      obtain ⟨g', E, hE⟩ := snoc_of z
      have mx := ends_last hE
      rw [hE] at q0 ⊢
      have la2 := last_at g' E
      generalize (g' ++ [E]).map D.int = En at *
      simp (disch := first | omega | (simp <;> omega) | fail) [q0, la2, r_addTo]
      have mx1 := mx.1
      have mx2 := mx.2.1
      exact .mk ⟨(n - E).toNat, by omega, E, g ++ [e], _, rfl, by omega, mx2, by rw [List.length_append, List.length_singleton]; omega, fun r hr => hg r (.step mx hr), by rw [List.map_append, eF]; rfl⟩
  · simp (disch := first | omega | (simp <;> omega) | fail) [la, l0, he, isLive]
    obtain rfl : e = n := by omega
    refine ⟨some (g ++ [e]), hg _ .done, fun l hl => ?_, by rw [← eF]; rfl⟩
    cases hl
    exact ⟨by simp, by rw [List.length_append, List.length_singleton]; omega⟩
/-! ### the law's cover -/
theorem cnt_len (ys : List Int) (k : Int) : (ys.filter fun y => y == k).length = ys.count k := by rw [List.count_eq_countP, List.countP_eq_length_filter]
theorem greedy_v (h : LenP n ys) (b0 : 0 ≤ B) : ∃ r, Gr ys B n 0 [0] r ∧ m__law_greedy.v [lenD n ys, .int B] = .ok (optL r) := by
  suffices hw : Wk (m__law_greedy.m [lenD n ys, .int B]) fun r => ∃ o, Gr ys B n 0 [0] o ∧ r.1 = optL o by
    obtain ⟨d, e, o, h1, h2⟩ := Wk.v' (P := fun d => ∃ o, Gr ys B n 0 [0] o ∧ d = optL o) hw
    exact ⟨o, h1, by rw [e, h2]⟩
  rw [me__law_greedy]
  have h1 := h.lo
  have h2 := h.hi
  have h3 := h.sz
  have l0 := len0 (n := n) (ys := ys)
  have l1 := len1 (n := n) (ys := ys)
  generalize lenD n ys = L at *
  obtain ⟨T, eT⟩ : ∃ T, ys.map D.int = T := ⟨_, rfl⟩
  have lT : T.length = ys.length := by rw [← eT, List.length_map]
  rw [eT] at l1
  simp (disch := first | omega | (simp <;> omega) | fail) [B__law_greedy, l0, r_rng1]
  refine wk_forN n.toNat (fun k => .int k) (fun k ρ => ∃ (e : Int) (g : List Int) (x4 x5 : Option D), 0 ≤ e ∧ e ≤ (k : Int) ∧ (e < (k : Int) ∨ k = 0) ∧ (g.length : Int) ≤ e ∧ gd ys B e k ∧ (∀ r, Gr ys B n e (g ++ [e]) r → Gr ys B n 0 [0] r) ∧ ρ = [some L, some (.int B), some (.lst ((g ++ [e]).map D.int)), some (.int (flt ys e k : Nat)), x4, x5, none]) rfl ⟨0, [], none, none, Int.le_refl _, Int.le_refl _, .inr rfl, Int.le_refl _, by show ((flt ys 0 0 : Nat) : Int) ≤ B; rw [flt_self]; exact b0, fun _ h => h, by
    show _ = [some L, some (.int B), some (.lst [.int 0]), some (.int (flt ys 0 0 : Nat)), none, none, none]
    rw [flt_self]
    rfl⟩ ?_ ?_
  · rintro k ρ hk ⟨e, g, x4, x5, e0, ek, ek2, gl, hgd, hg, rfl⟩
    have lf : ((g ++ [e]).map D.int).length ≤ 61 := by rw [List.length_map, List.length_append, List.length_singleton]; omega
    obtain ⟨F, eF⟩ : ∃ F, (g ++ [e]).map D.int = F := ⟨_, rfl⟩
    rw [eF] at lf ⊢
    have one := flt_one ys k
    have spl := flt_split ys ek (show (k : Int) ≤ (k : Int) + 1 by omega)
    have hkn : (k : Int) + 1 ≤ n := by omega
    obtain ⟨c, ec⟩ : ∃ c, ys.count (k : Int) = c := ⟨_, rfl⟩
    obtain ⟨f, ef⟩ : ∃ f, flt ys e (k : Int) = f := ⟨_, rfl⟩
    have hgd' : (f : Int) ≤ B := by rw [← ef]; exact hgd
    rw [ef]
    simp (disch := first | omega | (simp <;> omega) | fail) [l1]
    refine wk_flt1 ys D.int (fun y => y == (k : Int)) D.int eT.symm (fun y hy => by simp (disch := first | omega | (simp <;> omega) | fail) []) ?_
    have lc : ((ys.filter fun y => y == (k : Int)).map D.int).length = c := by rw [List.length_map, cnt_len, ec]
    generalize (ys.filter fun y => y == (k : Int)).map D.int = G at *
    by_cases c1 : B < (c : Int)
    · simp (disch := first | omega | (simp <;> omega) | fail) [lc, c1]
      -- no way past this yard
      have stopk : Gr ys B n k (g ++ [e] ++ [(k : Int)]) none := .stop (by omega) fun x x1 x2 x3 => by
        have := flt_le ys (show (k : Int) ≤ k by omega) (show (k : Int) ≤ k + 1 by omega) (show (k : Int) + 1 ≤ x by omega)
        unfold gd at x3
        omega
      refine ⟨none, hg _ ?_, rfl⟩
      rcases ek2 with ek2 | ek2
      · refine .step ⟨ek2, by omega, hgd, fun x x1 x2 x3 => ?_⟩ stopk
        rcases Int.lt_or_le (k : Int) x with h4 | h4
        · have := flt_le ys ek (show (k : Int) ≤ k + 1 by omega) (show (k : Int) + 1 ≤ x by omega)
          unfold gd at x3
          omega
        · exact h4
      · obtain rfl : e = 0 := by omega
        refine .stop (by omega) fun x x1 x2 x3 => ?_
        have e00 : (k : Int) = 0 := by omega
        have := flt_le ys (show (0 : Int) ≤ k by omega) (show (k : Int) ≤ k + 1 by omega) (show (k : Int) + 1 ≤ x by omega)
        unfold gd at x3
        omega
    · by_cases c2 : B < (f : Int) + (c : Int)
      · simp (disch := first | omega | (simp <;> omega) | fail) [lc, c1, c2, r_addTo]
        have ek3 : e < (k : Int) := ek2.resolve_right fun z => by
          have e00 : e = (k : Int) := by omega
          rw [e00, flt_self] at ef
          omega
        refine .mk ⟨(k : Int), g ++ [e], some (.int k), some (.int c), by omega, by omega, .inl (by omega), by rw [List.length_append, List.length_singleton]; omega, ?_, fun r hr => hg r (.step ⟨ek3, by omega, hgd, fun x x1 x2 x3 => ?_⟩ hr), ?_⟩
        · show ((flt ys (k : Int) ((k + 1 : Nat) : Int) : Nat) : Int) ≤ B
          rw [show ((k + 1 : Nat) : Int) = (k : Int) + 1 by omega, one, ec]
          omega
        · rcases Int.lt_or_le (k : Int) x with h4 | h4
          · have := flt_le ys (Int.le_refl e) (show e ≤ (k : Int) + 1 by omega) (show (k : Int) + 1 ≤ x by omega)
            unfold gd at x3
            omega
          · exact h4
        · try rw [show ((k + 1 : Nat) : Int) = (k : Int) + 1 by omega]
          rw [one, ec, List.map_append, eF]
          rfl
      · simp (disch := first | omega | (simp <;> omega) | fail) [lc, c1, c2]
        refine .mk ⟨e, g, some (.int k), some (.int c), e0, by omega, .inl (by omega), gl, ?_, hg, ?_⟩
        · show ((flt ys e ((k + 1 : Nat) : Int) : Nat) : Int) ≤ B
          rw [show ((k + 1 : Nat) : Int) = (k : Int) + 1 by omega, spl, one, ec, ef]
          omega
        · try rw [show ((k + 1 : Nat) : Int) = (k : Int) + 1 by omega]
          rw [spl, one, ec, ef, eF]
          rfl
  · rintro ρ ⟨e, g, x4, x5, e0, ek, ek2, gl, hgd, hg, rfl⟩
    have hn : ((n.toNat : Nat) : Int) = n := by omega
    rw [hn] at ek ek2 hgd
    have lf : ((g ++ [e]).map D.int).length ≤ 61 := by rw [List.length_map, List.length_append, List.length_singleton]; omega
    obtain ⟨F, eF⟩ : ∃ F, (g ++ [e]).map D.int = F := ⟨_, rfl⟩
    rw [eF] at lf ⊢
    simp (disch := first | omega | (simp <;> omega) | fail) [isLive, l0, r_addL]
    exact ⟨some (g ++ [e] ++ [n]), hg _ (.step ⟨by omega, Int.le_refl _, hgd, fun x _ hx _ => hx⟩ .done), by show _ = D.tup ((g ++ [e] ++ [n]).map D.int); rw [List.map_append, eF]; rfl⟩
end LK78

namespace LK78
open PySem PySem.Spec L2 SX EV
variable {n B : Int} {ys : List Int}
/-! ### the law's table of fewest pieces -/
def optN : Option Nat → D
  | none => .non
  | some m => .int (m : Int)
theorem nth_snoc_lt {α : Type} [Inhabited α] {xs : List α} {x : α} {i : Nat} (h : i < xs.length) : nth (xs ++ [x]) i = nth xs i := by
  rw [nth_get (by rw [List.length_append]; omega), nth_get h, List.getElem_append_left h]
theorem nth_snoc_eq {α : Type} [Inhabited α] {xs : List α} {x : α} : nth (xs ++ [x]) xs.length = x := by
  rw [nth_get (by rw [List.length_append]; simp), List.getElem_append_right (Nat.le_refl _)]
  simp
/-- the entry behind others -/
def cand (ys : List Int) (B : Int) (os : List (Option Nat)) (e : Int) : List Int := ((List.range e.toNat).filter fun (s : Nat) => (nth os s).isSome && decide (gd ys B s e)).map fun (s : Nat) => (((nth os s).getD 0 : Nat) : Int) + 1
def minN : List Int → Option Nat
  | [] => none
  | x :: xs => some (minI x xs).toNat
theorem cand_mem {os : List (Option Nat)} {e v : Int} (h0 : 0 ≤ e) : v ∈ cand ys B os e ↔ ∃ (s : Nat) (m : Nat), (s : Int) < e ∧ nth os s = some m ∧ gd ys B s e ∧ v = (m : Int) + 1 := by
  unfold cand
  rw [List.mem_map]
  constructor
  · rintro ⟨s, hs, rfl⟩
    rw [List.mem_filter, List.mem_range, Bool.and_eq_true, decide_eq_true_eq] at hs
    obtain ⟨h1, h2, h3⟩ := hs
    cases q : nth os s with
    | none => rw [q] at h2; cases h2
    | some m => exact ⟨s, m, by omega, q, h3, rfl⟩
  · rintro ⟨s, m, h1, h2, h3, rfl⟩
    refine ⟨s, List.mem_filter.mpr ⟨List.mem_range.mpr (by omega), ?_⟩, by rw [h2]; rfl⟩
    rw [h2, decide_eq_true h3]
    rfl
theorem least_step {os : List (Option Nat)} {e : Int} (he : 0 < e) (hl : ∀ s : Nat, (s : Int) < e → IsL (nth os s) (fun m => Ch ys B m s)) : IsL (minN (cand ys B os e)) (fun m => Ch ys B m e) := by
  have key : ∀ m, Ch ys B m e → ∃ v, v ∈ cand ys B os e ∧ v ≤ m := fun m hm => by
    obtain ⟨j, s, rfl, h1, h2, h3, h4⟩ := (ch_step he).mp hm
    obtain ⟨t, rfl⟩ : ∃ t : Nat, s = t := ⟨s.toNat, by omega⟩
    have hi := hl t h3
    cases q : nth os t with
    | none => rw [q] at hi; exact absurd h1 (hi j)
    | some m' =>
      rw [q] at hi
      have := hi.2 j h1
      exact ⟨(m' : Int) + 1, (cand_mem (by omega)).mpr ⟨t, m', h3, q, h4, rfl⟩, by omega⟩
  cases z : cand ys B os e with
  | nil =>
    intro m hm
    obtain ⟨v, hv, _⟩ := key m hm
    rw [z] at hv
    cases hv
  | cons x xs =>
    obtain ⟨a, b⟩ := minI_ok xs x
    show Ch ys B (minI x xs).toNat e ∧ ∀ m, Ch ys B m e → (minI x xs).toNat ≤ m
    constructor
    · have hm : minI x xs ∈ cand ys B os e := by rw [z]; exact a
      obtain ⟨s, m, h1, h2, h3, h4⟩ := (cand_mem (by omega)).mp hm
      have hi := hl s h1
      rw [h2] at hi
      rw [h4, show ((m : Int) + 1).toNat = m + 1 by omega]
      exact .step hi.1 h1 h3
    · intro m hm
      obtain ⟨v, hv, hle⟩ := key m hm
      rw [z] at hv
      have := b v hv
      omega
theorem cand_pos {os : List (Option Nat)} {e v : Int} (h0 : 0 ≤ e) (h : v ∈ cand ys B os e) : 0 ≤ v := by
  obtain ⟨s, m, _, _, _, rfl⟩ := (cand_mem h0).mp h
  omega
theorem isN (o : Option Nat) : dIs true (optN o) .non = some (.bl o.isSome) := by cases o <;> rfl
theorem fewest_v (h : LenP n ys) : ∃ o, IsL o (fun m => Ch ys B m n) ∧ m__law_fewest.v [lenD n ys, .int B] = .ok (optN o) := by
  suffices hw : Wk (m__law_fewest.m [lenD n ys, .int B]) fun r => ∃ o, IsL o (fun m => Ch ys B m n) ∧ r.1 = optN o by
    obtain ⟨d, e, o, h1, h2⟩ := Wk.v' (P := fun d => ∃ o, IsL o (fun m => Ch ys B m n) ∧ d = optN o) hw
    exact ⟨o, h1, by rw [e, h2]⟩
  rw [me__law_fewest]
  have h1 := h.lo
  have h2 := h.hi
  have h3 := h.sz
  have l0 := len0 (n := n) (ys := ys)
  have fv := lfaults_v (n := n) (ys := ys) (by omega)
  generalize lenD n ys = L at *
  have rg := r_rng2 (i := 1) (j := n + 1) (by omega) (by omega) (by omega) (by omega)
  rw [show (n + 1 - 1).toNat = n.toNat by omega] at rg
  simp (disch := first | omega | (simp <;> omega) | fail) [B__law_fewest, l0, rg]
  refine wk_forN n.toNat (fun k => .int (1 + k)) (fun k ρ => ∃ (os : List (Option Nat)) (x3 x4 : Option D), os.length = k + 1 ∧ (∀ s : Nat, s ≤ k → IsL (nth os s) (fun m => Ch ys B m s)) ∧ ρ = [some L, some (.int B), some (.lst (os.map optN)), x3, x4, none]) rfl ⟨[some 0], none, none, rfl, fun s hs => ?_, rfl⟩ ?_ ?_
  · obtain rfl : s = 0 := by omega
    exact ⟨.zero, fun _ _ => Nat.zero_le _⟩
  · rintro k ρ hk ⟨os, x3, x4, hol, hos, rfl⟩
    obtain ⟨e, ee⟩ : ∃ e : Int, 1 + (k : Int) = e := ⟨_, rfl⟩
    have e0 : 0 < e := by omega
    have at1 : ∀ s : Nat, s < k + 1 → L2.atI (os.map optN) (s : Int) = some (optN (nth os s)) := fun s hs => by
      have := at_map (f := optN) (xs := os) (i := (s : Int)) (by omega) (by omega)
      rw [Int.toNat_natCast] at this
      exact this
    have lO : (os.map optN).length = k + 1 := by rw [List.length_map, hol]
    have hL := least_step (ys := ys) (B := B) (os := os) e0 fun s hs => hos s (by omega)
    obtain ⟨O, eO⟩ : ∃ O, os.map optN = O := ⟨_, rfl⟩
    rw [eO] at at1 lO ⊢
    rw [ee]
    have r1 := r_rng1 (j := e) (by omega) (by omega)
    simp (disch := first | omega | (simp <;> omega) | fail) [r1]
    refine wk_flt1 (List.range e.toNat) (fun (s : Nat) => .int (s : Int)) (fun (s : Nat) => (nth os s).isSome && decide (gd ys B s e)) (fun (s : Nat) => .int ((((nth os s).getD 0 : Nat) : Int) + 1)) rfl (fun s hs => ?_) ?_
    · have hs := List.mem_range.mp hs
      have a1 := at1 s (by omega)
      have f1 := fv s e
      have i1 := isN (nth os s)
      cases q : nth os s with
      | none =>
        rw [q] at a1 i1
        generalize optN none = N at *
        simp (disch := first | omega | (simp <;> omega) | fail) [a1, i1]
      | some m =>
        rw [q] at a1 i1
        have e1 : optN (some m) = .int (m : Int) := rfl
        rw [e1] at a1 i1
        by_cases c : gd ys B s e
        · have c' : ((flt ys s e : Nat) : Int) ≤ B := c
          simp (disch := first | omega | (simp <;> omega) | fail) [a1, i1, f1, c']
        · have c' : ¬ ((flt ys s e : Nat) : Int) ≤ B := c
          simp (disch := first | omega | (simp <;> omega) | fail) [a1, i1, f1, c']
    have ec : ((List.range e.toNat).filter fun (s : Nat) => (nth os s).isSome && decide (gd ys B s e)).map (fun (s : Nat) => D.int ((((nth os s).getD 0 : Nat) : Int) + 1)) = (cand ys B os e).map D.int := by unfold cand; rw [List.map_map]; rfl
    rw [ec]
    have n0 := neL0 (cand ys B os e)
    have fin : ∀ o, o = minN (cand ys B os e) → ∀ s : Nat, s ≤ k + 1 → IsL (nth (os ++ [o]) s) (fun m => Ch ys B m s) := fun o ho s hs => by
      rcases Nat.lt_or_ge s (k + 1) with h4 | h4
      · rw [nth_snoc_lt (by omega)]
        exact hos s (by omega)
      · obtain rfl : s = os.length := by omega
        rw [nth_snoc_eq, ho, show ((os.length : Nat) : Int) = e by omega]
        exact hL
    cases z : cand ys B os e with
    | nil =>
      rw [z] at n0 fin
      have n00 : dNeA (.lst []) (.lst []) = some (.bl false) := n0
      simp (disch := first | omega | (simp <;> omega) | fail) [n00, r_addTo]
      exact .mk ⟨os ++ [none], some (.int e), some (.lst []), by rw [List.length_append, hol]; rfl, fin none rfl, by rw [List.map_append, eO]; rfl⟩
    | cons x xs =>
      have mm := q_min1 x xs
      have hp : 0 ≤ minI x xs := cand_pos (ys := ys) (B := B) (os := os) (e := e) (by omega) (by rw [z]; exact (minI_ok xs x).1)
      rw [z] at n0 fin
      generalize (x :: xs).map D.int = Cn at *
      simp (disch := first | omega | (simp <;> omega) | fail) [n0, mm, r_addTo]
      exact .mk ⟨os ++ [some (minI x xs).toNat], some (.int e), some (.lst Cn), by rw [List.length_append, hol]; rfl, fin _ rfl, by rw [List.map_append, eO]; show _ = [some L, some (.int B), some (.lst (O ++ [.int (((minI x xs).toNat : Nat) : Int)])), some (.int e), some (.lst Cn), none]; rw [Int.toNat_of_nonneg hp]; rfl⟩
  · rintro ρ ⟨os, x3, x4, hol, hos, rfl⟩
    obtain ⟨g, o, rfl⟩ := snoc_of (xs := os) (by cases os with | nil => cases hol | cons _ _ => rfl)
    have hg : g.length = n.toNat := by rw [List.length_append, List.length_singleton] at hol; omega
    have ho := hos n.toNat (Nat.le_refl _)
    rw [← hg, nth_snoc_eq, hg, show ((n.toNat : Nat) : Int) = n by omega] at ho
    have la : L2.atI ((g ++ [o]).map optN) (-1) = some (optN o) := by
      rw [atI_map]
      unfold L2.atI ixN
      rw [if_neg (by decide), List.length_append, List.length_singleton, if_pos (by omega)]
      show ((g ++ [o])[_]?).map optN = _
      rw [show ((-1 : Int) + (g.length + 1 : Nat)).toNat = g.length by omega, List.getElem?_append_right (Nat.le_refl _), Nat.sub_self]
      rfl
    generalize (g ++ [o]).map optN = O at *
    simp (disch := first | omega | (simp <;> omega) | fail) [isLive, la]
    exact ⟨o, ho, rfl⟩
end LK78

namespace LK78
open PySem PySem.Spec L2 SX EV
variable {n B : Int} {ys : List Int}
/-! ### the longest good piece -/
def optP : Option (Int × Int) → D
  | none => .non
  | some p => .tup [.int p.1, .int p.2]
/-- the best of the pairs that were seen -/
def BG (ys : List Int) (B : Int) (P : Int → Int → Prop) (o : Option (Int × Int)) : Prop := match o with
  | none => ∀ s e, P s e → ¬ gd ys B s e
  | some p => P p.1 p.2 ∧ gd ys B p.1 p.2 ∧ ∀ s e, P s e → gd ys B s e → e - s ≤ p.2 - p.1 ∧ (e - s = p.2 - p.1 → p.1 ≤ s)
theorem BG.add {P P' : Int → Int → Prop} {o : Option (Int × Int)} {a b : Int} (h : BG ys B P o) (hP : ∀ s e, P' s e ↔ P s e ∨ (s = a ∧ e = b)) (hs : ∀ s e, P s e → s ≤ a) :
    (gd ys B a b → (∀ p, o = some p → p.2 - p.1 < b - a) → BG ys B P' (some (a, b))) ∧ (¬ gd ys B a b → BG ys B P' o) ∧ (∀ p, o = some p → ¬ (p.2 - p.1 < b - a) → BG ys B P' o) := by
  refine ⟨fun hg hl => ?_, fun hg => ?_, fun p hp hl => ?_⟩
  · refine ⟨(hP _ _).mpr (.inr ⟨rfl, rfl⟩), hg, fun s e h1 h2 => ?_⟩
    rcases (hP s e).mp h1 with h1 | ⟨rfl, rfl⟩
    · cases o with
      | none => exact absurd h2 (h s e h1)
      | some p =>
        have := (h.2.2 s e h1 h2).1
        have := hl p rfl
        exact ⟨by show e - s ≤ b - a; omega, fun z => by have z : e - s = b - a := z; omega⟩
    · exact ⟨Int.le_refl _, fun _ => Int.le_refl _⟩
  · cases o with
    | none =>
      intro s e h1
      rcases (hP s e).mp h1 with h1 | ⟨rfl, rfl⟩
      · exact h s e h1
      · exact hg
    | some p =>
      refine ⟨(hP _ _).mpr (.inl h.1), h.2.1, fun s e h1 h2 => ?_⟩
      rcases (hP s e).mp h1 with h1 | ⟨rfl, rfl⟩
      · exact h.2.2 s e h1 h2
      · exact absurd h2 hg
  · subst hp
    refine ⟨(hP _ _).mpr (.inl h.1), h.2.1, fun s e h1 h2 => ?_⟩
    rcases (hP s e).mp h1 with h1 | ⟨rfl, rfl⟩
    · exact h.2.2 s e h1 h2
    · have := hs p.1 p.2 h.1
      exact ⟨by omega, fun _ => this⟩
theorem BG.iff {P P' : Int → Int → Prop} {o : Option (Int × Int)} (h : BG ys B P o) (hP : ∀ s e, P' s e ↔ P s e) : BG ys B P' o := by
  have : P' = P := funext fun s => funext fun e => propext (hP s e)
  rw [this]
  exact h
theorem BG.lg {o : Option (Int × Int)} (h : BG ys B (fun s e => 0 ≤ s ∧ s < e ∧ e ≤ n) o) : LG ys B n o := by
  cases o with
  | none => exact fun s e h1 h2 h3 => h s e ⟨h1, h2, h3⟩
  | some p => exact ⟨h.1.1, h.1.2.1, h.1.2.2, h.2.1, fun s e h1 h2 h3 h4 => h.2.2 s e ⟨h1, h2, h3⟩ h4⟩
theorem isP (b : Bool) (o : Option (Int × Int)) : dIs b (optP o) .non = some (.bl (o.isSome == b)) := by cases o <;> cases b <;> rfl
theorem longest_v (h : LenP n ys) (b0 : 0 ≤ B) (b1 : B ≤ 120) : ∃ o, LG ys B n o ∧ m_longest_good.v [lenD n ys, .int B] = .ok (optP o) := by
  suffices hw : Wk (m_longest_good.m [lenD n ys, .int B]) fun r => ∃ o, LG ys B n o ∧ r.1 = optP o by
    obtain ⟨d, e, o, h1, h2⟩ := Wk.v' (P := fun d => ∃ o, LG ys B n o ∧ d = optP o) hw
    exact ⟨o, h1, by rw [e, h2]⟩
  rw [me_longest_good]
  have h1 := h.lo
  have h2 := h.hi
  have l0 := len0 (n := n) (ys := ys)
  have sv := sums_v h
  have nb := need_bound_v h b0 b1
  have gv := fun (s e : Int) => good_v (ys := ys) (B := B) (n := n) (s := s) (e := e)
  generalize lenD n ys = L at *
  generalize sumsL ys (n.toNat + 1) = Sm at *
  simp (disch := first | omega | (simp <;> omega) | fail) [B_longest_good, nb, sv, l0, r_rng1]
  refine wk_forN n.toNat (fun k => .int k) (fun k ρ => ∃ (o : Option (Int × Int)) (x4 x5 : Option D), BG ys B (fun s e => 0 ≤ s ∧ s < e ∧ e ≤ n ∧ s < (k : Int)) o ∧ ρ = [some L, some (.int B), some (.lst Sm), some (optP o), x4, x5]) rfl ⟨none, none, none, fun s e h => by omega, rfl⟩ ?_ ?_
  · rintro k ρ hk ⟨o, x4, x5, ho, rfl⟩
    have rg := r_rng2 (i := (k : Int) + 1) (j := n + 1) (by omega) (by omega) (by omega) (by omega)
    rw [show (n + 1 - ((k : Int) + 1)).toNat = n.toNat - k by omega] at rg
    simp (disch := first | omega | (simp <;> omega) | fail) [l0, rg]
    refine wk_forN (n.toNat - k) (fun j => .int ((k : Int) + 1 + j)) (fun j ρ => ∃ (o : Option (Int × Int)) (x5 : Option D), BG ys B (fun s e => 0 ≤ s ∧ s < e ∧ e ≤ n ∧ (s < (k : Int) ∨ (s = (k : Int) ∧ e < (k : Int) + 1 + j))) o ∧ ρ = [some L, some (.int B), some (.lst Sm), some (optP o), some (.int k), x5]) rfl ⟨o, _, ho.iff fun s e => by omega, rfl⟩ ?_ ?_
    · clear ho o
      rintro j ρ hj ⟨o, x5, ho, rfl⟩
      have ad := ho.add (a := (k : Int)) (b := (k : Int) + 1 + j) (P' := fun s e => 0 ≤ s ∧ s < e ∧ e ≤ n ∧ (s < (k : Int) ∨ (s = (k : Int) ∧ e < (k : Int) + 1 + ((j + 1 : Nat) : Int)))) (fun s e => by omega) (fun s e h => by omega)
      have g1 := gv (k : Int) ((k : Int) + 1 + j) (by omega) (by omega) (by omega)
      have i1 := isP false o
      by_cases c : gd ys B (k : Int) ((k : Int) + 1 + j)
      · rw [decide_eq_true c] at g1
        cases o with
        | none =>
          have e1 : optP none = .non := rfl
          rw [e1] at i1 ⊢
          simp (disch := first | omega | (simp <;> omega) | fail) [g1, i1]
          exact .mk ⟨some ((k : Int), (k : Int) + 1 + j), some (.int ((k : Int) + 1 + j)), ad.1 c fun p hp => (nomatch hp), rfl⟩
        | some p =>
          have e1 : optP (some p) = .tup [.int p.1, .int p.2] := rfl
          rw [e1] at i1 ⊢
          by_cases c2 : p.2 - p.1 < (k : Int) + 1 + j - k
          · simp (disch := first | omega | (simp <;> omega) | fail) [g1, i1, at0, at1, c2]
            exact .mk ⟨some ((k : Int), (k : Int) + 1 + j), some (.int ((k : Int) + 1 + j)), ad.1 c fun q hq => by cases hq; exact c2, rfl⟩
          · simp (disch := first | omega | (simp <;> omega) | fail) [g1, i1, at0, at1, c2]
            exact .mk ⟨some p, some (.int ((k : Int) + 1 + j)), ad.2.2 p rfl c2, rfl⟩
      · rw [decide_eq_false c] at g1
        generalize hO : optP o = O at *
        simp (disch := first | omega | (simp <;> omega) | fail) [g1]
        exact .mk ⟨o, some (.int ((k : Int) + 1 + j)), ad.2.1 c, by rw [hO]⟩
    · clear ho o
      rintro ρ ⟨o, x5, ho, rfl⟩
      simp (disch := first | omega | (simp <;> omega) | fail) []
      exact .mk ⟨o, some (.int k), x5, ho.iff fun s e => by omega, rfl⟩
  · rintro ρ ⟨o, x4, x5, ho, rfl⟩
    generalize hO : optP o = O at *
    simp (disch := first | omega | (simp <;> omega) | fail) []
    exact ⟨o, (ho.iff fun s e => by omega).lg, hO.symm⟩
/-! ### by sizes -/
theorem r_down {a : Int} (h0 : 0 ≤ a) (h1 : a ≤ 1000000) : rng3 [.int a, .int 0, .int (-1)] = some ((List.range a.toNat).map fun (k : Nat) => D.int (a - k)) := by
  have e := PySem.W.rangeSize_downNat a 0
  rw [Int.sub_zero] at e
  have hc : ((-1 : Int) ≠ 0 ∧ (-1 : Int).natAbs < 1073741824 ∧ Builtin.Range.small a 0 (-1) = true ∧ 0 ≤ Builtin.Range.rangeSize a 0 (-1)) := ⟨by decide, by decide, PySem.W.small_down (by omega) (by omega) (by omega) (by omega), by rw [e]; omega⟩
  show (if (-1 : Int) ≠ 0 ∧ (-1 : Int).natAbs < 1073741824 ∧ Builtin.Range.small a 0 (-1) = true ∧ 0 ≤ Builtin.Range.rangeSize a 0 (-1) then some (rng a (-1) (Builtin.Range.rangeSize a 0 (-1)).toNat) else none) = _
  rw [if_pos hc, e, Int.toNat_natCast]
  unfold rng
  congr 1
  refine List.map_congr_left fun k _ => ?_
  congr 1
  omega
def starts (ys : List Int) (B n z : Int) : List Int := ((List.range (n - z + 1).toNat).filter fun (s : Nat) => decide (gd ys B s ((s : Int) + z))).map fun (s : Nat) => (s : Int)
theorem starts_mem {z s : Int} : s ∈ starts ys B n z ↔ 0 ≤ s ∧ s + z ≤ n ∧ gd ys B s (s + z) := by
  unfold starts
  rw [List.mem_map]
  constructor
  · rintro ⟨k, hk, rfl⟩
    rw [List.mem_filter, List.mem_range, decide_eq_true_eq] at hk
    exact ⟨by omega, by omega, hk.2⟩
  · rintro ⟨h1, h2, h3⟩
    obtain ⟨t, rfl⟩ : ∃ t : Nat, s = t := ⟨s.toNat, by omega⟩
    exact ⟨t, List.mem_filter.mpr ⟨List.mem_range.mpr (by omega), decide_eq_true h3⟩, rfl⟩
theorem starts_pw {z : Int} : (starts ys B n z).Pairwise (· < ·) := by
  unfold starts
  exact List.Pairwise.map _ (fun a b h => by omega) (List.Pairwise.filter _ List.pairwise_lt_range)
theorem llongest_v (h : LenP n ys) : ∃ o, LG ys B n o ∧ m__law_longest.v [lenD n ys, .int B] = .ok (optP o) := by
  suffices hw : Wk (m__law_longest.m [lenD n ys, .int B]) fun r => ∃ o, LG ys B n o ∧ r.1 = optP o by
    obtain ⟨d, e, o, h1, h2⟩ := Wk.v' (P := fun d => ∃ o, LG ys B n o ∧ d = optP o) hw
    exact ⟨o, h1, by rw [e, h2]⟩
  rw [me__law_longest]
  have h1 := h.lo
  have h2 := h.hi
  have h3 := h.sz
  have l0 := len0 (n := n) (ys := ys)
  have fv := lfaults_v (n := n) (ys := ys) (by omega)
  generalize lenD n ys = L at *
  have rd := r_down (a := n) (by omega) (by omega)
  simp (disch := first | omega | (simp <;> omega) | fail) [B__law_longest, l0, rd]
  refine wk_forN n.toNat (fun k => .int (n - k)) (fun k ρ => ∃ x2 x3, (∀ s e, 0 ≤ s → s < e → e ≤ n → n - k < e - s → ¬ gd ys B s e) ∧ ρ = [some L, some (.int B), x2, x3, none]) rfl ⟨none, none, fun s e h1 h2 h3 h4 => by omega, rfl⟩ ?_ ?_
  · rintro k ρ hk ⟨x2, x3, hno, rfl⟩
    obtain ⟨z, ez⟩ : ∃ z : Int, n - (k : Int) = z := ⟨_, rfl⟩
    rw [ez] at hno ⊢
    have r1 := r_rng1 (j := n - z + 1) (by omega) (by omega)
    simp (disch := first | omega | (simp <;> omega) | fail) [l0, r1]
    refine wk_flt1 (List.range (n - z + 1).toNat) (fun (s : Nat) => .int (s : Int)) (fun (s : Nat) => decide (gd ys B s ((s : Int) + z))) (fun (s : Nat) => .int (s : Int)) rfl (fun s hs => ?_) ?_
    · have f1 := fv (s : Int) ((s : Int) + z)
      by_cases c : gd ys B (s : Int) ((s : Int) + z)
      · have c' : ((flt ys s ((s : Int) + z) : Nat) : Int) ≤ B := c
        simp (disch := first | omega | (simp <;> omega) | fail) [f1, c']
      · have c' : ¬ ((flt ys s ((s : Int) + z) : Nat) : Int) ≤ B := c
        simp (disch := first | omega | (simp <;> omega) | fail) [f1, c']
    have es : ((List.range (n - z + 1).toNat).filter fun (s : Nat) => decide (gd ys B s ((s : Int) + z))).map (fun (s : Nat) => D.int (s : Int)) = (starts ys B n z).map D.int := by unfold starts; rw [List.map_map]; rfl
    rw [es]
    have n0 := neL0 (starts ys B n z)
    cases q : starts ys B n z with
    | nil =>
      rw [q] at n0
      have n00 : dNeA (.lst []) (.lst []) = some (.bl false) := n0
      simp (disch := first | omega | (simp <;> omega) | fail) [n00]
      refine .mk ⟨some (.int z), some (.lst []), fun s e a1 a2 a3 a4 hg => ?_, rfl⟩
      rcases Int.lt_or_le z (e - s) with h5 | h5
      · exact hno s e a1 a2 a3 h5 hg
      · have e1 : e = s + z := by omega
        have := starts_mem.mpr ⟨a1, (by omega : s + z ≤ n), (e1 ▸ hg : gd ys B s (s + z))⟩
        rw [q] at this
        cases this
    | cons s0 r =>
      rw [q] at n0
      have pw := starts_pw (ys := ys) (B := B) (n := n) (z := z)
      rw [q] at pw
      obtain ⟨m1, m2, m3⟩ := starts_mem.mp (show s0 ∈ starts ys B n z by rw [q]; exact List.mem_cons_self)
      have a0 : L2.atI ((s0 :: r).map D.int) 0 = some (.int s0) := at0 _ _
      generalize (s0 :: r).map D.int = Sn at *
      simp (disch := first | omega | (simp <;> omega) | fail) [n0, a0]
      refine ⟨some (s0, s0 + z), ⟨m1, by show s0 < s0 + z; omega, m2, m3, fun s e b1 b2 b3 b4 => ?_⟩, rfl⟩
      show e - s ≤ s0 + z - s0 ∧ (e - s = s0 + z - s0 → s0 ≤ s)
      rcases Int.lt_or_le z (e - s) with h5 | h5
      · exact absurd b4 (hno s e b1 b2 b3 h5)
      · refine ⟨by omega, fun h6 => ?_⟩
        have e1 : e = s + z := by omega
        have := starts_mem.mpr ⟨b1, (by omega : s + z ≤ n), (e1 ▸ b4 : gd ys B s (s + z))⟩
        rw [q] at this
        rcases List.mem_cons.mp this with rfl | this
        · exact Int.le_refl _
        · have := (List.pairwise_cons.mp pw).1 s this
          omega
  · rintro ρ ⟨x2, x3, hno, rfl⟩
    simp (disch := first | omega | (simp <;> omega) | fail) []
    exact ⟨none, fun s e a1 a2 a3 => hno s e a1 a2 a3 (by omega), rfl⟩
end LK78

namespace LK78
open PySem PySem.Spec L2 SX EV
variable {n B : Int} {ys : List Int}
/-! ### which values are covers -/
theorem prs_pw : ∀ {ns : List Int}, (∀ p, p ∈ prs ns → p.1 < p.2) → ns.Pairwise (· < ·)
  | [], _ => .nil
  | [a], _ => List.pairwise_singleton _ _
  | a :: b :: r, h => by
    have h1 : a < b := h (a, b) (show (a, b) ∈ (a, b) :: prs (b :: r) from List.mem_cons_self)
    have ih := prs_pw (ns := b :: r) fun p hp => h p (show p ∈ (a, b) :: prs (b :: r) from List.mem_cons_of_mem _ hp)
    refine List.pairwise_cons.mpr ⟨fun z hz => ?_, ih⟩
    rcases List.mem_cons.mp hz with rfl | hz
    · exact h1
    · have := (List.pairwise_cons.mp ih).1 z hz
      omega
def rB (ns : List Int) : Bool := (prs ns).all fun p => decide (p.1 < p.2)
theorem rB_iff {ns : List Int} : rB ns = true ↔ ns.Pairwise (· < ·) := by
  unfold rB
  rw [List.all_eq_true]
  exact ⟨fun h => prs_pw fun p hp => of_decide_eq_true (h p hp), fun h p hp => decide_eq_true (prs_of h p hp)⟩
theorem setI_pw (l : List Int) : (setI l).Pairwise (· < ·) := by
  have h1 := sortI_pw (ddI l)
  have h2 : (sortI (ddI l)).Nodup := (sortI_perm _).nodup_iff.mpr (ddI_nodup l)
  exact (List.pairwise_and_iff.mpr ⟨h1, h2⟩).imp fun h => by
    have := h.1
    have := h.2
    omega
theorem setI_eq {ns : List Int} : decide (ns = setI ns) = rB ns := by
  rw [Bool.eq_iff_iff, decide_eq_true_eq, rB_iff]
  exact ⟨fun h => h ▸ setI_pw ns, fun h => setI_unique h fun _ => Iff.rfl⟩
def wB (d : D) (lo hi : Int) : Bool := match d with
  | .int i => decide (lo ≤ i) && decide (i ≤ hi)
  | _ => false
theorem wholeG {d : D} {lo hi : Int} (h : d.lay = true) : m_is_whole.v [d, .int lo, .int hi] = .ok (.bl (wB d lo hi)) := by
  refine Wk.v ?_
  rw [me_is_whole]
  cases d with
  | int i =>
    have i0 : isD 0 (.int i) = some true := rfl
    have i1 : isD 1 (.int i) = some false := rfl
    by_cases c1 : lo ≤ i
    · by_cases c2 : i ≤ hi
      · simp (disch := first | omega | (simp <;> omega) | fail) [B_is_whole, i0, i1, c1, c2, wB]
      · simp (disch := first | omega | (simp <;> omega) | fail) [B_is_whole, i0, i1, c1, c2, wB]
    · simp (disch := first | omega | (simp <;> omega) | fail) [B_is_whole, i0, i1, c1, wB]
  | bl b =>
    have i0 : isD 0 (.bl b) = some true := rfl
    have i1 : isD 1 (.bl b) = some true := rfl
    simp (disch := first | omega | (simp <;> omega) | fail) [B_is_whole, i0, i1, wB]
  | non =>
    have i0 : isD 0 .non = some false := rfl
    simp (disch := first | omega | (simp <;> omega) | fail) [B_is_whole, i0, wB]
  | str s =>
    have i0 : isD 0 (.str s) = some false := rfl
    simp (disch := first | omega | (simp <;> omega) | fail) [B_is_whole, i0, wB]
  | tup xs =>
    have i0 : isD 0 (.tup xs) = some false := rfl
    simp (disch := first | omega | (simp <;> omega) | fail) [B_is_whole, i0, wB]
  | lst xs =>
    have i0 : isD 0 (.lst xs) = some false := rfl
    simp (disch := first | omega | (simp <;> omega) | fail) [B_is_whole, i0, wB]
  | _ => cases h
def tB' (d : D) (lo hi : Int) : Bool := match d with
  | .tup xs => decide (lo ≤ xs.length) && decide ((xs.length : Int) ≤ hi)
  | _ => false
theorem tupofG {d : D} {lo hi : Int} (h : d.lay = true) : m_is_tuple_of.v [d, .int lo, .int hi] = .ok (.bl (tB' d lo hi)) := by
  refine Wk.v ?_
  rw [me_is_tuple_of]
  cases d with
  | tup xs =>
    have i3 : isD 3 (.tup xs) = some true := rfl
    by_cases c1 : lo ≤ xs.length
    · by_cases c2 : (xs.length : Int) ≤ hi
      · simp (disch := first | omega | (simp <;> omega) | fail) [B_is_tuple_of, i3, c1, c2, tB']
      · simp (disch := first | omega | (simp <;> omega) | fail) [B_is_tuple_of, i3, c1, c2, tB']
    · simp (disch := first | omega | (simp <;> omega) | fail) [B_is_tuple_of, i3, c1, tB']
  | int i =>
    have i3 : isD 3 (.int i) = some false := rfl
    simp (disch := first | omega | (simp <;> omega) | fail) [B_is_tuple_of, i3, tB']
  | bl b =>
    have i3 : isD 3 (.bl b) = some false := rfl
    simp (disch := first | omega | (simp <;> omega) | fail) [B_is_tuple_of, i3, tB']
  | non =>
    have i3 : isD 3 .non = some false := rfl
    simp (disch := first | omega | (simp <;> omega) | fail) [B_is_tuple_of, i3, tB']
  | str s =>
    have i3 : isD 3 (.str s) = some false := rfl
    simp (disch := first | omega | (simp <;> omega) | fail) [B_is_tuple_of, i3, tB']
  | lst xs =>
    have i3 : isD 3 (.lst xs) = some false := rfl
    simp (disch := first | omega | (simp <;> omega) | fail) [B_is_tuple_of, i3, tB']
  | _ => cases h
/-- ends at both ends -/
def fst0 (ns : List Int) : Int := ns.head?.getD 1
def lst0 (ns : List Int) : Int := ns.getLast?.getD (-1)
def covI (ys : List Int) (B n : Int) (ns : List Int) : Bool := decide (2 ≤ ns.length) && rB ns && decide (fst0 ns = 0) && decide (lst0 ns = n) && (prs ns).all fun p => decide (gd ys B p.1 p.2)
def covB (ys : List Int) (B n : Int) : D → Bool
  | .tup xs => match EV.dInts xs with
    | some ns => covI ys B n ns
    | none => false
  | _ => false
theorem layL_mem : ∀ {xs : List D}, layL xs = true → ∀ d, d ∈ xs → d.lay = true
  | x :: xs, h, d, hm => by
    have h' : (x.lay && layL xs) = true := h
    rw [Bool.and_eq_true] at h'
    rcases List.mem_cons.mp hm with rfl | hm
    · exact h'.1
    · exact layL_mem h'.2 d hm
theorem layL_of : ∀ {xs : List D}, (∀ d, d ∈ xs → d.lay = true) → layL xs = true
  | [], _ => rfl
  | x :: xs, h => by
    show (x.lay && layL xs) = true
    rw [h x List.mem_cons_self, layL_of fun d hd => h d (List.mem_cons_of_mem _ hd)]
    rfl
theorem dInts_all : ∀ {xs : List D}, (∀ d, d ∈ xs → ∃ i, d = .int i) → ∃ ns : List Int, xs = ns.map D.int
  | [], _ => ⟨[], rfl⟩
  | x :: xs, h => by
    obtain ⟨i, rfl⟩ := h x List.mem_cons_self
    obtain ⟨ns, rfl⟩ := dInts_all fun d hd => h d (List.mem_cons_of_mem _ hd)
    exact ⟨i :: ns, rfl⟩
theorem pw_range : ∀ {ns : List Int} {a : Int}, (a :: ns).Pairwise (· < ·) → ∀ {b : Int}, (a :: ns).getLast? = some b → (∀ x, x ∈ a :: ns → a ≤ x ∧ x ≤ b) ∧ ((a :: ns).length : Int) ≤ b - a + 1
  | [], a, _, b, h => by
    obtain rfl : a = b := by simpa using h
    exact ⟨fun x hx => by rw [List.mem_singleton.mp hx]; omega, by show (1 : Int) ≤ _; omega⟩
  | c :: ns, a, hp, b, h => by
    obtain ⟨h1, h2⟩ := List.pairwise_cons.mp hp
    have h' : (c :: ns).getLast? = some b := by rw [List.getLast?_cons_cons] at h; exact h
    obtain ⟨i1, i2⟩ := pw_range h2 h'
    have ac := h1 c List.mem_cons_self
    refine ⟨fun x hx => ?_, ?_⟩
    · rcases List.mem_cons.mp hx with rfl | hx
      · have := i1 c List.mem_cons_self
        omega
      · have := i1 x hx
        omega
    · rw [List.length_cons]
      omega
/-- what a cover is bound by -/
theorem covI_bd {ns : List Int} (h : covI ys B n ns = true) : (∀ x, x ∈ ns → 0 ≤ x ∧ x ≤ n) ∧ 2 ≤ ns.length ∧ (ns.length : Int) ≤ n + 1 := by
  unfold covI at h
  rw [Bool.and_eq_true, Bool.and_eq_true, Bool.and_eq_true, Bool.and_eq_true, decide_eq_true_eq, decide_eq_true_eq, decide_eq_true_eq, rB_iff] at h
  obtain ⟨⟨⟨⟨h1, h2⟩, h3⟩, h4⟩, _⟩ := h
  cases ns with
  | nil => exact absurd h1 (by decide)
  | cons a ns =>
    have ha : a = 0 := h3
    subst ha
    cases q : ((0 : Int) :: ns).getLast? with
    | none => simp at q
    | some b =>
      have hb : b = n := by
        unfold lst0 at h4
        rw [q] at h4
        exact h4
      subst hb
      obtain ⟨i1, i2⟩ := pw_range h2 q
      exact ⟨i1, h1, by omega⟩
theorem fst_at {ns : List Int} (h : 2 ≤ ns.length) : L2.atI (ns.map D.int) 0 = some (.int (fst0 ns)) := by
  cases ns with
  | nil => exact absurd h (by decide)
  | cons a ns => exact at0 _ _
theorem lst_at {ns : List Int} (h : 2 ≤ ns.length) : L2.atI (ns.map D.int) (-1) = some (.int (lst0 ns)) := by
  obtain ⟨g, e, rfl⟩ := snoc_of (xs := ns) (by cases ns with | nil => exact absurd h (by decide) | cons _ _ => rfl)
  rw [last_at]
  unfold lst0
  simp
theorem cover_is_v (h : LenP n ys) (b0 : 0 ≤ B) (b1 : B ≤ 120) {d : D} (hd : d.lay = true) (hx : ∀ xs, d = .tup xs → xs.length ≤ 62) : m_is_yard_cover.v [lenD n ys, .int B, d] = .ok (.bl (covB ys B n d)) := by
  refine Wk.v ?_
  rw [me_is_yard_cover]
  have h1 := h.lo
  have h2 := h.hi
  have l0 := len0 (n := n) (ys := ys)
  have sv := sums_v h
  have nb := need_bound_v h b0 b1
  have gv := fun (s e : Int) => good_v (ys := ys) (B := B) (n := n) (s := s) (e := e)
  have tv := tupofG (lo := 2) (hi := n + 1) hd
  generalize lenD n ys = L at *
  generalize sumsL ys (n.toNat + 1) = Sm at *
  cases c0 : tB' d 2 (n + 1) with
  | false =>
    rw [c0] at tv
    have e0 : covB ys B n d = false := by
      cases d with
      | tup xs =>
        show (match EV.dInts xs with | some ns => covI ys B n ns | none => false) = false
        cases q : EV.dInts xs with
        | none => rfl
        | some ns =>
          show covI ys B n ns = false
          cases w : covI ys B n ns with
          | false => rfl
          | true =>
            obtain ⟨_, w1, w2⟩ := covI_bd w
            obtain rfl := ints_eq q
            have : tB' (.tup (ns.map D.int)) 2 (n + 1) = (decide ((2 : Int) ≤ (ns.map D.int).length) && decide (((ns.map D.int).length : Int) ≤ n + 1)) := rfl
            rw [this, List.length_map, decide_eq_true (by omega), decide_eq_true w2] at c0
            cases c0
      | _ => rfl
    rw [e0]
    simp (disch := first | omega | (simp <;> omega) | fail) [B_is_yard_cover, nb, l0, tv]
  | true =>
    rw [c0] at tv
    cases d with
    | tup xs =>
      have hxs := hx xs rfl
      have hl : layL xs = true := hd
      have c0' : (decide ((2 : Int) ≤ xs.length) && decide ((xs.length : Int) ≤ n + 1)) = true := c0
      rw [Bool.and_eq_true, decide_eq_true_eq, decide_eq_true_eq] at c0'
      simp (disch := first | omega | (simp <;> omega) | fail) [B_is_yard_cover, nb, l0, tv]
      refine wk_map1 xs id (fun d => .bl (wB d 0 n)) (List.map_id xs).symm (fun d hd => ?_) ?_
      · have := wholeG (d := d) (lo := 0) (hi := n) (layL_mem hl d hd)
        simp (disch := first | omega | (simp <;> omega) | fail) [this, l0]
      have al := all_map (fun d => wB d 0 n) xs
      cases c1 : xs.all fun d => wB d 0 n with
      | false =>
        rw [c1] at al
        have e0 : covB ys B n (.tup xs) = false := by
          show (match EV.dInts xs with | some ns => covI ys B n ns | none => false) = false
          cases q : EV.dInts xs with
          | none => rfl
          | some ns =>
            show covI ys B n ns = false
            cases w : covI ys B n ns with
            | false => rfl
            | true =>
              obtain ⟨w0, _, _⟩ := covI_bd w
              obtain rfl := ints_eq q
              have : ((ns.map D.int).all fun d => wB d 0 n) = true := List.all_eq_true.mpr fun d hd => by
                obtain ⟨i, hi, rfl⟩ := List.mem_map.mp hd
                have := w0 i hi
                show (decide (0 ≤ i) && decide (i ≤ n)) = true
                rw [decide_eq_true this.1, decide_eq_true this.2]
                rfl
              rw [this] at c1
              cases c1
        rw [e0]
        generalize xs.map (fun d => D.bl (wB d 0 n)) = M at *
        simp (disch := first | omega | (simp <;> omega) | fail) [al]
      | true =>
        rw [c1] at al
        have c1' := List.all_eq_true.mp c1
        obtain ⟨ns, rfl⟩ := dInts_all (xs := xs) fun d hd => by
          have := c1' d hd
          cases d with
          | int i => exact ⟨i, rfl⟩
          | _ => cases this
        have bd : ∀ x, x ∈ ns → 0 ≤ x ∧ x ≤ n := fun x hx => by
          have := c1' (.int x) (List.mem_map_of_mem hx)
          have : (decide (0 ≤ x) && decide (x ≤ n)) = true := this
          rw [Bool.and_eq_true, decide_eq_true_eq, decide_eq_true_eq] at this
          exact this
        rw [List.length_map] at c0' hxs
        have l2 : 2 ≤ ns.length := by omega
        have ecov : covB ys B n (.tup (ns.map D.int)) = covI ys B n ns := by
          show (match EV.dInts (ns.map D.int) with | some ns => covI ys B n ns | none => false) = _
          rw [ids]
        have ecov2 : covI ys B n ns = (rB ns && decide (fst0 ns = 0) && decide (lst0 ns = n) && (prs ns).all fun p => decide (gd ys B p.1 p.2)) := by
          unfold covI
          rw [decide_eq_true l2, Bool.true_and]
        rw [ecov, ecov2]
        have a0 := fst_at l2
        have a1 := lst_at l2
        have sl := sl1_fact ns
        have zp := zip2_prs ns
        have lP : (prs ns).length ≤ 62 := by unfold prs; rw [List.length_zip]; omega
        have rv : m_is_rising.v [.tup (ns.map D.int)] = .ok (.bl (rB ns)) := by
          refine Wk.v ?_
          rw [me_is_rising]
          have ar := all_map (fun p : Int × Int => decide (p.1 < p.2)) (prs ns)
          generalize (ns.map D.int) = T at *
          generalize ((ns.drop 1).map D.int) = T1 at *
          simp (disch := first | omega | (simp <;> omega) | fail) [B_is_rising, sl, zp]
          refine wk_map2 (prs ns) (fun p => .int p.1) (fun p => .int p.2) (fun p => .bl (decide (p.1 < p.2))) rfl (fun p hp => by simp (disch := first | omega | (simp <;> omega) | fail) []) ?_
          generalize (prs ns).map (fun p : Int × Int => D.bl (decide (p.1 < p.2))) = M at *
          simp (disch := first | omega | (simp <;> omega) | fail) [ar]
          rfl
        have ag := all_map (fun p : Int × Int => decide (gd ys B p.1 p.2)) (prs ns)
        have mem2 : ∀ p, p ∈ prs ns → p.1 ∈ ns ∧ p.2 ∈ ns := fun p hp => ⟨(List.of_mem_zip hp).1, List.mem_of_mem_drop (List.of_mem_zip hp).2⟩
        generalize (ns.map D.int).map (fun d => D.bl (wB d 0 n)) = M at *
        generalize (ns.map D.int) = T at *
        generalize ((ns.drop 1).map D.int) = T1 at *
        by_cases d1 : fst0 ns = 0
        · by_cases d2 : lst0 ns = n
          · cases d3 : rB ns with
            | false =>
              rw [d3] at rv
              simp (disch := first | omega | (simp <;> omega) | fail) [al, a0, a1, l0, rv, d1, d2]
            | true =>
              rw [d3] at rv
              have pw := rB_iff.mp d3
              simp (disch := first | omega | (simp <;> omega) | fail) [al, a0, a1, l0, rv, d1, d2, sv, sl, zp]
              refine wk_map2 (prs ns) (fun p => .int p.1) (fun p => .int p.2) (fun p => .bl (decide (gd ys B p.1 p.2))) rfl (fun p hp => ?_) ?_
              · obtain ⟨m1, m2⟩ := mem2 p hp
                have := gv p.1 p.2 (bd _ m1).1 (by have := prs_of pw p hp; omega) (bd _ m2).2
                simp (disch := first | omega | (simp <;> omega) | fail) [this]
              generalize (prs ns).map (fun p : Int × Int => D.bl (decide (gd ys B p.1 p.2))) = M2 at *
              simp (disch := first | omega | (simp <;> omega) | fail) [ag, d1, d2]
          · have d2' : (lst0 ns == n) = false := beq_eq_false_iff_ne.mpr d2
            simp (disch := first | omega | (simp <;> omega) | fail) [al, a0, a1, l0, d1, d2, d2']
        · have d1' : (fst0 ns == 0) = false := beq_eq_false_iff_ne.mpr d1
          simp (disch := first | omega | (simp <;> omega) | fail) [al, a0, d1, d1']
    | _ => cases c0
end LK78

namespace LK78
open PySem PySem.Spec L2 SX EV
variable {n B : Int} {ys : List Int}
theorem sort2 {d : D} : sortN d = 2 ↔ ∃ i, d = .int i := by
  cases d with
  | int i => exact ⟨fun _ => ⟨i, rfl⟩, fun _ => rfl⟩
  | _ =>
    constructor
    · intro h
      simp [sortN] at h
    · rintro ⟨i, h⟩
      cases h
theorem lcover_is_v (h : LenP n ys) {d : D} (hd : d.lay = true) (hx : ∀ xs, d = .tup xs → xs.length ≤ 62) : m__law_is_cover.v [lenD n ys, .int B, d] = .ok (.bl (covB ys B n d)) := by
  refine Wk.v ?_
  rw [me__law_is_cover]
  have h1 := h.lo
  have h2 := h.hi
  have h3 := h.sz
  have l0 := len0 (n := n) (ys := ys)
  have fv := lfaults_v (n := n) (ys := ys) (by omega)
  generalize lenD n ys = L at *
  cases d with
  | tup xs =>
    have hxs := hx xs rfl
    have hl : layL xs = true := hd
    have i3 : isD 3 (.tup xs) = some true := rfl
    by_cases c0 : (xs.length : Int) < 2
    · have e0 : covB ys B n (.tup xs) = false := by
        show (match EV.dInts xs with | some ns => covI ys B n ns | none => false) = false
        cases q : EV.dInts xs with
        | none => rfl
        | some ns =>
          show covI ys B n ns = false
          cases w : covI ys B n ns with
          | false => rfl
          | true =>
            obtain ⟨_, w1, _⟩ := covI_bd w
            obtain rfl := ints_eq q
            rw [List.length_map] at c0
            omega
      rw [e0]
      simp (disch := first | omega | (simp <;> omega) | fail) [B__law_is_cover, i3, c0]
    · simp (disch := first | omega | (simp <;> omega) | fail) [B__law_is_cover, i3, c0]
      refine wk_flt1 xs id (fun d => !(sortN d == 2)) id (List.map_id xs).symm (fun d hd => ?_) ?_
      · have := sort_v (layL_mem hl d hd)
        cases c : (sortN d == 2)
        · simp (disch := first | omega | (simp <;> omega) | fail) [this, c]
        · simp (disch := first | omega | (simp <;> omega) | fail) [this, c]
      rw [List.map_id]
      have lF : layL (xs.filter fun d => !(sortN d == 2)) = true := layL_of fun d hd => layL_mem hl d (List.mem_filter.mp hd).1
      have n0 := q_neA (ne_l0 _ lF)
      cases c1 : (xs.filter fun d => !(sortN d == 2)).isEmpty with
      | false =>
        rw [c1] at n0
        have e0 : covB ys B n (.tup xs) = false := by
          show (match EV.dInts xs with | some ns => covI ys B n ns | none => false) = false
          cases q : EV.dInts xs with
          | none => rfl
          | some ns =>
            obtain rfl := ints_eq q
            have : ((ns.map D.int).filter fun d => !(sortN d == 2)) = [] := List.filter_eq_nil_iff.mpr fun d hd => by
              obtain ⟨i, _, rfl⟩ := List.mem_map.mp hd
              simp [sortN]
            rw [this] at c1
            cases c1
        rw [e0]
        generalize (xs.filter fun d => !(sortN d == 2)) = F at *
        simp (disch := first | omega | (simp <;> omega) | fail) [n0]
      | true =>
        rw [c1] at n0
        have c1' := List.filter_eq_nil_iff.mp (List.isEmpty_iff.mp c1)
        obtain ⟨ns, rfl⟩ := dInts_all (xs := xs) fun d hd => by
          have := c1' d hd
          exact sort2.mp (by simpa using this)
        rw [List.length_map] at hxs c0
        have l2 : 2 ≤ ns.length := by omega
        have ecov : covB ys B n (.tup (ns.map D.int)) = covI ys B n ns := by
          show (match EV.dInts (ns.map D.int) with | some ns => covI ys B n ns | none => false) = _
          rw [ids]
        have ecov2 : covI ys B n ns = (rB ns && decide (fst0 ns = 0) && decide (lst0 ns = n) && (prs ns).all fun p => decide (gd ys B p.1 p.2)) := by
          unfold covI
          rw [decide_eq_true l2, Bool.true_and]
        rw [ecov, ecov2]
        have a0 := fst_at l2
        have a1 := lst_at l2
        have sl := sl1_fact ns
        have zp := zip2_prs ns
        have lP : (prs ns).length ≤ 62 := by unfold prs; rw [List.length_zip]; omega
        have bs : bSortSI (.tup (ns.map D.int)) = some (.lst ((setI ns).map D.int)) := by
          show ((EV.dInts (ns.map D.int)).bind fun ns => if ns.length < 63 then some (D.lst ((setI ns).map D.int)) else none) = _
          rw [ids]
          exact if_pos (by omega)
        have nl : dNeA (.lst (ns.map D.int)) (.lst ((setI ns).map D.int)) = some (.bl (!rB ns)) := by
          have e := q_neA (show dNe (.lst (ns.map D.int)) (.lst ((setI ns).map D.int)) = some (.bl (!eqvL (ns.map D.int) ((setI ns).map D.int))) from by
            have h : eqOk (.lst (ns.map D.int)) (.lst ((setI ns).map D.int)) = true := by
              show (layL (ns.map D.int) && layL ((setI ns).map D.int) && decide (min (depL (ns.map D.int) + 1) (depL ((setI ns).map D.int) + 1) ≤ 64)) = true
              rw [lay_ints0, lay_ints0, dep_ints0, dep_ints0]
              rfl
            show (if eqOk (.lst (ns.map D.int)) (.lst ((setI ns).map D.int)) = true then some (D.bl (!eqvL (ns.map D.int) ((setI ns).map D.int))) else none) = _
            rw [if_pos h])
          rw [e, eqv_ints0, setI_eq]
        have lst1 : bLst [.tup (ns.map D.int)] = some (.lst (ns.map D.int)) := rfl
        generalize ((ns.map D.int).filter fun d => !(sortN d == 2)) = F at *
        obtain ⟨T, eT⟩ : ∃ T, ns.map D.int = T := ⟨_, rfl⟩
        rw [eT] at a0 a1 sl zp bs nl lst1 ⊢
        generalize ((ns.drop 1).map D.int) = T1 at *
        generalize ((setI ns).map D.int) = T2 at *
        cases d3 : rB ns with
        | false =>
          rw [d3] at nl
          simp (disch := first | omega | (simp <;> omega) | fail) [n0, lst1, bs, nl]
        | true =>
          rw [d3] at nl
          by_cases d1 : fst0 ns = 0
          · by_cases d2 : lst0 ns = n
            · simp (disch := first | omega | (simp <;> omega) | fail) [n0, lst1, bs, nl, a0, a1, l0, d1, d2, sl, zp]
              refine wk_flt2 (prs ns) (fun p => .int p.1) (fun p => .int p.2) (fun p => !decide (gd ys B p.1 p.2)) (fun _ => .int 1) rfl (fun p hp => ?_) ?_
              · have f1 := fv p.1 p.2
                by_cases c : gd ys B p.1 p.2
                · have c' : ¬ B < ((flt ys p.1 p.2 : Nat) : Int) := Int.not_lt.mpr c
                  simp (disch := first | omega | (simp <;> omega) | fail) [f1, c', c]
                · have c' : B < ((flt ys p.1 p.2 : Nat) : Int) := Int.not_le.mp c
                  simp (disch := first | omega | (simp <;> omega) | fail) [f1, c', c]
              have lM : layL (((prs ns).filter fun p => !decide (gd ys B p.1 p.2)).map fun _ => D.int 1) = true := layL_of fun d hd => by obtain ⟨_, _, rfl⟩ := List.mem_map.mp hd; rfl
              have q0 := q_eqA (eq_l0 _ lM)
              have em : (((prs ns).filter fun p => !decide (gd ys B p.1 p.2)).map fun _ => D.int 1).isEmpty = (prs ns).all fun p => decide (gd ys B p.1 p.2) := by
                rw [Bool.eq_iff_iff, List.isEmpty_iff, List.map_eq_nil_iff, List.filter_eq_nil_iff, List.all_eq_true]
                exact ⟨fun h p hp => by simpa using h p hp, fun h p hp => by simpa using h p hp⟩
              rw [em] at q0
              generalize (((prs ns).filter fun p => !decide (gd ys B p.1 p.2)).map fun _ => D.int 1) = M at *
              simp (disch := first | omega | (simp <;> omega) | fail) [q0, d1, d2]
            · have d2' : (lst0 ns == n) = false := beq_eq_false_iff_ne.mpr d2
              simp (disch := first | omega | (simp <;> omega) | fail) [n0, lst1, bs, nl, a0, a1, l0, d1, d2, d2']
          · have d1' : (fst0 ns == 0) = false := beq_eq_false_iff_ne.mpr d1
            simp (disch := first | omega | (simp <;> omega) | fail) [n0, lst1, bs, nl, a0, d1, d1']
  | int i =>
    have i3 : isD 3 (.int i) = some false := rfl
    simp (disch := first | omega | (simp <;> omega) | fail) [B__law_is_cover, i3, covB]
  | bl b =>
    have i3 : isD 3 (.bl b) = some false := rfl
    simp (disch := first | omega | (simp <;> omega) | fail) [B__law_is_cover, i3, covB]
  | non =>
    have i3 : isD 3 .non = some false := rfl
    simp (disch := first | omega | (simp <;> omega) | fail) [B__law_is_cover, i3, covB]
  | str s =>
    have i3 : isD 3 (.str s) = some false := rfl
    simp (disch := first | omega | (simp <;> omega) | fail) [B__law_is_cover, i3, covB]
  | lst xs =>
    have i3 : isD 3 (.lst xs) = some false := rfl
    simp (disch := first | omega | (simp <;> omega) | fail) [B__law_is_cover, i3, covB]
  | _ => cases hd
end LK78

namespace LK78
open PySem PySem.Spec L2 SX EV
variable {n B : Int} {ys : List Int}
theorem wf_cut {α : Type} {c : Bool} {a b : Res α} {Q : α → Prop} {t : Hid (a, b, Q)} (P : α → Prop) (h : Wf c a b P) (k : ∀ x, P x → Q x) : Wf c a b Q t := by
  cases c
  · exact Wk.mono (show Wk b P from h) k
  · exact Wk.mono (show Wk a P from h) k
/-! ### the program's words -/
theorem yard_v (h : LenP n ys) (b0 : 0 ≤ B) (b1 : B ≤ 120) {o : D} (hv : m_cover_in.v [lenD n ys, .int B] = .ok o) : m_yard_cover.v [lenD n ys, .int B] = .ok o := by
  refine Wk.v ?_
  rw [me_yard_cover]
  have nb := need_bound_v h b0 b1
  generalize lenD n ys = L at *
  simp (disch := first | omega | (simp <;> omega) | fail) [B_yard_cover, nb, hv]
def lenO (o : Option (List Int)) : D := optN (o.map fun l => l.length - 1)
theorem pieces_v (h : LenP n ys) (b0 : 0 ≤ B) (b1 : B ≤ 120) {o : Option (List Int)} (hne : ∀ l, o = some l → l ≠ []) (hv : m_cover_in.v [lenD n ys, .int B] = .ok (optL o)) : m_fewest_pieces.v [lenD n ys, .int B] = .ok (lenO o) := by
  refine Wk.v ?_
  rw [me_fewest_pieces]
  have nb := need_bound_v h b0 b1
  generalize lenD n ys = L at *
  cases o with
  | none =>
    have e1 : optL none = .non := rfl
    have e2 : lenO none = .non := rfl
    have i1 : dIs true .non .non = some (.bl false) := rfl
    rw [e1] at hv
    rw [e2]
    simp (disch := first | omega | (simp <;> omega) | fail) [B_fewest_pieces, nb, hv, i1]
  | some l =>
    have e1 : optL (some l) = .tup (l.map D.int) := rfl
    have hl : l ≠ [] := hne l rfl
    have hl2 : 1 ≤ l.length := by cases l with | nil => exact absurd rfl hl | cons _ _ => rw [List.length_cons]; omega
    have e2 : lenO (some l) = .int ((l.length : Int) - 1) := by
      show D.int (((l.length - 1 : Nat)) : Int) = _
      congr 1
      omega
    have i1 : ∀ xs, dIs true (.tup xs) .non = some (.bl true) := fun _ => rfl
    have ll : (l.map D.int).length = l.length := List.length_map ..
    rw [e1] at hv
    rw [e2]
    generalize l.map D.int = T at *
    simp (disch := first | omega | (simp <;> omega) | fail) [B_fewest_pieces, nb, hv, i1, ll]
theorem faults_v (h : LenP n ys) {s : Int} (h0 : 0 ≤ s) (h1 : s < n) : m_faults_in.v [lenD n ys, .int s, .int n] = .ok (.int (flt ys s n : Nat)) := by
  refine Wk.v ?_
  rw [me_faults_in]
  have nl := need_len_v h
  have ns := need_span_v h h0 h1 (Int.le_refl n)
  have sv := sums_v h
  have hn := h.lo
  have a1 := sumsL_at (ys := ys) (m := n.toNat + 1) (i := s) h0 (by omega)
  have a2 := sumsL_at (ys := ys) (m := n.toNat + 1) (i := n) (by omega) (by omega)
  have e1 : ((flt ys 0 n : Nat) : Int) - ((flt ys 0 s : Nat) : Int) = (flt ys s n : Nat) := by
    have := flt_split ys h0 (show s ≤ n by omega)
    omega
  generalize sumsL ys (n.toNat + 1) = Sk at *
  generalize lenD n ys = L at *
  simp (disch := first | omega | (simp <;> omega) | fail) [B_faults_in, nl, ns, sv, a1, a2, e1]
theorem flt_top (h : LenP n ys) (s : Int) : (ys.filter fun y => decide (s ≤ y)).length = flt ys s n := by
  unfold flt
  congr 1
  exact List.filter_congr fun y hy => by rw [decide_eq_true (h.bd y hy).2, Bool.and_true]
/-! ### lengths -/
theorem sortA_fact (zs : List Int) : bSortA [.lst (zs.map D.int)] = some (.lst ((sortI zs).map D.int)) := by
  unfold bSortA
  have e2 : bSortI [.lst (zs.map D.int)] = some (.lst ((sortI zs).map D.int)) := by
    show (EV.dInts (zs.map D.int)).map _ = _
    rw [ids]
    rfl
  rw [e2]
  cases zs with
  | nil => rfl
  | cons z zs => rfl
theorem lengthsW {c : D} {m : Int} (hc : CupI c) (h0 : 1 ≤ m) (h1 : m ≤ 60) : Wk (m__law_lengths.m [c, .int m]) fun r => Hold (∃ n ys c', r = (lenD n ys, [c', .int m]) ∧ LenP n ys ∧ CupI c') := by
  rw [me__law_lengths]
  simp (disch := first | omega | (simp <;> omega) | fail) [B__law_lengths]
  refine (rollW hc (by omega) (by omega)).mono ?_
  rintro _ ⟨i, c1, rfl, i0, i1, hc1⟩
  obtain ⟨n, en⟩ : ∃ n : Int, 1 + i = n := ⟨_, rfl⟩
  simp (disch := first | omega | (simp <;> omega) | fail) [hc1.flatC, en]
  refine (rollW hc1 (by omega) (by omega)).mono ?_
  rintro _ ⟨a, c2, rfl, a0, a1, hc2⟩
  simp (disch := first | omega | (simp <;> omega) | fail) [hc2.flatC]
  refine (rollW hc2 (by omega) (by omega)).mono ?_
  rintro _ ⟨b, c3, rfl, b0, b1, hc3⟩
  simp (disch := first | omega | (simp <;> omega) | fail) [hc3.flatC]
  refine (someW hc3 (by simp) (by simp)).mono ?_
  rintro _ ⟨x, c4, rfl, hx, hc4⟩
  obtain ⟨t, rfl, t0, t1⟩ : ∃ t : Int, x = .int t ∧ 0 ≤ t ∧ t ≤ 19 := by
    simp at hx
    rcases hx with rfl | rfl | rfl | rfl | rfl
    · exact ⟨_, rfl, by decide, by decide⟩
    · exact ⟨_, rfl, by decide, by decide⟩
    · exact ⟨_, rfl, by decide, by decide⟩
    · exact ⟨_, rfl, by omega, by omega⟩
    · exact ⟨_, rfl, by omega, by omega⟩
  simp (disch := first | omega | (simp <;> omega) | fail) [hc4.flatC, r_rng1]
  refine wk_forN t.toNat (fun k => .int k) (fun k ρ => ∃ (c : D) (zs : List Int) (x4 x5 : Option D), CupI c ∧ zs.length ≤ k ∧ (∀ z, z ∈ zs → 0 ≤ z ∧ z < n) ∧ (∀ z, zs.count z ≤ 3) ∧ ρ = [some c, some (.int m), some (.int n), some (.lst (zs.map D.int)), x4, x5, none]) rfl ⟨c4, [], none, none, hc4, Nat.zero_le _, (fun _ h => nomatch h), (fun _ => Nat.zero_le _), rfl⟩ ?_ ?_
  · rintro k ρ hk ⟨c, zs, x4, x5, hc, hl, hb, hf, rfl⟩
    have ne := neL0 zs
    have lz : (zs.map D.int).length ≤ 20 := by rw [List.length_map]; omega
    have so := fun (h : zs.isEmpty = false) => someW (xs := zs.map D.int) hc
    obtain ⟨Z, eZ⟩ : ∃ Z, zs.map D.int = Z := ⟨_, rfl⟩
    rw [eZ] at ne lz ⊢
    simp (disch := first | omega | (simp <;> omega) | fail) [ne]
    refine wf_cut (fun o => Hold (∃ b c', o = (b, [some c', some (.int m), some (.int n), some (.lst Z), some (.int k), x5, none]) ∧ (b = true → zs.isEmpty = false) ∧ CupI c')) (.of (fun h => ?_) fun _ => ?_) ?_
    · simp (disch := first | omega | (simp <;> omega) | fail) []
      refine (rollW hc (by decide) (by decide)).mono ?_
      rintro _ ⟨r, c', rfl, _, _, hc'⟩
      simp (disch := first | omega | (simp <;> omega) | fail) [hc'.flatC]
      exact .mk ⟨_, c', rfl, fun _ => by simpa using h, hc'⟩
    · simp (disch := first | omega | (simp <;> omega) | fail) []
      exact .mk ⟨false, c, rfl, (fun h => by cases h), hc⟩
    rintro _ ⟨bb, c5, rfl, hbb, hc5⟩
    refine wf_cut (fun o => Hold (∃ y c', o = (.val (.int y), [some c', some (.int m), some (.int n), some (.lst Z), some (.int k), x5, none]) ∧ 0 ≤ y ∧ y < n ∧ CupI c')) (.of (fun h => ?_) fun _ => ?_) ?_
    · have hz := hbb h
      have hz2 : 0 < Z.length := by
        rw [← eZ, List.length_map]
        cases zs with
        | nil => cases hz
        | cons _ _ => exact Nat.zero_lt_succ _
      simp (disch := first | omega | (simp <;> omega) | fail) []
      refine (someW hc5 hz2 (by omega)).mono ?_
      rintro _ ⟨x, c', rfl, hx, hc'⟩
      rw [← eZ] at hx
      obtain ⟨y, hy, rfl⟩ := List.mem_map.mp hx
      simp (disch := first | omega | (simp <;> omega) | fail) [hc'.flatC]
      exact .mk ⟨y, c', rfl, (hb y hy).1, (hb y hy).2, hc'⟩
    · simp (disch := first | omega | (simp <;> omega) | fail) []
      refine (rollW hc5 (by omega) (by omega)).mono ?_
      rintro _ ⟨y, c', rfl, y0, y1, hc'⟩
      simp (disch := first | omega | (simp <;> omega) | fail) [hc'.flatC]
      exact .mk ⟨y, c', rfl, y0, y1, hc'⟩
    rintro _ ⟨y, c6, rfl, y0, y1, hc6⟩
    simp (disch := first | omega | (simp <;> omega) | fail) []
    refine wk_flt1 zs D.int (fun z => z == y) D.int eZ.symm (fun z hz => by simp (disch := first | omega | (simp <;> omega) | fail) []) ?_
    have lc : ((zs.filter fun z => z == y).map D.int).length = zs.count y := by rw [List.length_map, cnt_len]
    have fl := flatC_ints (zs.filter fun z => z == y)
    generalize (zs.filter fun z => z == y).map D.int = G at *
    obtain ⟨q, eq⟩ : ∃ q, zs.count y = q := ⟨_, rfl⟩
    rw [eq] at lc
    by_cases c3 : (q : Int) < 3
    · simp (disch := first | omega | (simp <;> omega) | fail) [fl, lc, c3, r_addTo]
      refine .mk ⟨c6, zs ++ [y], some (.int k), some (.int y), hc6, by rw [List.length_append, List.length_singleton]; omega, fun z hz => ?_, fun z => ?_, by rw [List.map_append, eZ]; rfl⟩
      · rcases List.mem_append.mp hz with hz | hz
        · exact hb z hz
        · rw [List.mem_singleton.mp hz]; exact ⟨y0, y1⟩
      · rw [List.count_append]
        by_cases e : y = z
        · subst e
          rw [eq]
          simp
          omega
        · have := hf z
          rw [List.count_singleton, if_neg (by simpa using e)]
          omega
    · simp (disch := first | omega | (simp <;> omega) | fail) [fl, lc, c3]
      exact .mk ⟨c6, zs, some (.int k), some (.int y), hc6, by omega, hb, hf, by rw [eZ]; rfl⟩
  · rintro ρ ⟨c, zs, x4, x5, hc, hl, hb, hf, rfl⟩
    have sf := sortA_fact zs
    have pm := sortI_perm zs
    have pw := sortI_pw zs
    have fin : ∃ n' ys' c', (D.tup [.int n, .tup ((sortI zs).map D.int)], [c, .int m]) = (lenD n' ys', [c', .int m]) ∧ LenP n' ys' ∧ CupI c' := ⟨n, sortI zs, c, rfl, ⟨by omega, by omega, by rw [pm.length_eq]; omega, fun y hy => hb y (pm.mem_iff.mp hy), pw, fun y => by rw [pm.count_eq]; exact hf y⟩, hc⟩
    generalize zs.map D.int = Z at *
    generalize (sortI zs).map D.int = SZ at *
    simp (disch := first | omega | (simp <;> omega) | fail) [isLive, sf, hc.flatC]
    exact .mk fin
end LK78

namespace LK78
open PySem PySem.Spec L2 SX EV
/-! ### bent values -/
def tl : D → Nat
  | .tup xs => xs.length
  | _ => 0
theorem cutL {α : Type} {xs : List α} {l h : Option Int} {x : α} (hm : x ∈ cut xs l h) : x ∈ xs := cut_mem hm
theorem lay_cut {xs : List D} (h : layL xs = true) (l u : Option Int) : layL (cut xs l u) = true := layL_of fun d hd => layL_mem h d (cut_mem hd)
theorem layL_app {a b : List D} (h1 : layL a = true) (h2 : layL b = true) : layL (a ++ b) = true := layL_of fun d hd => (List.mem_append.mp hd).elim (layL_mem h1 d) (layL_mem h2 d)
theorem bentW : ∀ (k : Nat) (d : D) {c : D}, CupI c → d.sm = true → d.dep < k → Wk ((mr__law_bent k).m [c, d]) fun r => Hold (∃ v c', r = (v, [c', d]) ∧ v.lay = true ∧ tl v ≤ tl d + 1 ∧ CupI c')
  | 0, d, c, _, _, h => absurd h (Nat.not_lt_zero _)
  | k + 1, d, c, hc, hs, hk => by
    have ih := bentW k
    have hlay := sm_lay d hs
    have sv := sort_v hlay
    have np : (mr__law_bent k).np = 2 := npr__law_bent k
    have bo : (mr__law_bent k).bor = [0] := bor__law_bent k
    generalize hR : mr__law_bent k = R at *
    rw [mer__law_bent, hR]
    obtain ⟨t3, e3⟩ : ∃ t3, isD 3 d = some t3 := by cases d <;> first | exact ⟨_, rfl⟩ | cases hlay
    have tup3 : t3 = true → ∃ xs, d = .tup xs := fun h => by
      subst h
      cases d <;> first | exact ⟨_, rfl⟩ | cases e3
    simp (disch := first | omega | (simp <;> omega) | fail) [B__law_bent, e3]
    refine wf_cut (fun o => Hold (∃ b c', o = (b, [some c', some d, none, none, none]) ∧ (b = false → ∃ xs, d = .tup xs ∧ xs.isEmpty = false) ∧ CupI c')) (.of (fun h => ?_) fun h => ?_) ?_
    · simp (disch := first | omega | (simp <;> omega) | fail) []
      exact .mk ⟨true, c, rfl, (fun h => by cases h), hc⟩
    · have ht : t3 = true := by simpa using h
      obtain ⟨xs, rfl⟩ := tup3 ht
      have q0 := q_eqA (eq_t0 xs hlay)
      simp (disch := first | omega | (simp <;> omega) | fail) [q0]
      cases z : xs.isEmpty with
      | true =>
        simp (disch := first | omega | (simp <;> omega) | fail) []
        exact .mk ⟨true, c, rfl, (fun h => by cases h), hc⟩
      | false =>
        simp (disch := first | omega | (simp <;> omega) | fail) []
        refine (rollW hc (by decide) (by decide)).mono ?_
        rintro _ ⟨r, c', rfl, _, _, hc'⟩
        simp (disch := first | omega | (simp <;> omega) | fail) [hc'.flatC]
        exact .mk ⟨_, c', rfl, fun _ => ⟨xs, rfl, z⟩, hc'⟩
    rintro _ ⟨b, c1, rfl, hb, hc1⟩
    cases b with
    | true =>
      simp (disch := first | omega | (simp <;> omega) | fail) [sv]
      cases s2 : sortN d == 2 with
      | true =>
        obtain ⟨i, rfl⟩ := sort2.mp (eq_of_beq s2)
        simp (disch := first | omega | (simp <;> omega) | fail) [r_addL]
        refine (someW hc1 (by simp) (by simp)).mono ?_
        rintro _ ⟨x, c2, rfl, hx, hc2⟩
        simp (disch := first | omega | (simp <;> omega) | fail) [hc2.flatC]
        have hx' : x.lay = true ∧ tl x = 0 := by
          simp only [List.mem_cons, List.not_mem_nil, or_false] at hx
          rcases hx with rfl | rfl | rfl | rfl | rfl | rfl | rfl | rfl | rfl | rfl | rfl | rfl | rfl | rfl | rfl | rfl | rfl <;> exact ⟨rfl, rfl⟩
        exact .mk ⟨x, c2, rfl, hx'.1, by rw [hx'.2]; exact Nat.zero_le _, hc2⟩
      | false =>
        simp (disch := first | omega | (simp <;> omega) | fail) []
        refine (someW hc1 (by simp) (by simp)).mono ?_
        rintro _ ⟨x, c2, rfl, hx, hc2⟩
        simp (disch := first | omega | (simp <;> omega) | fail) [hc2.flatC]
        have hx' : x.lay = true ∧ tl x = 0 := by
          simp only [List.mem_cons, List.not_mem_nil, or_false] at hx
          rcases hx with rfl | rfl | rfl | rfl | rfl | rfl | rfl | rfl | rfl | rfl | rfl | rfl | rfl | rfl <;> exact ⟨rfl, rfl⟩
        exact .mk ⟨x, c2, rfl, hx'.1, by rw [hx'.2]; exact Nat.zero_le _, hc2⟩
    | false =>
      obtain ⟨xs, rfl, hne⟩ := hb rfl
      obtain ⟨hx1, hx2⟩ := sm_tup hs
      have hl : layL xs = true := hlay
      have hpos : 0 < xs.length := by cases xs with | nil => cases hne | cons _ _ => exact Nat.zero_lt_succ _
      simp (disch := first | omega | (simp <;> omega) | fail) []
      refine (rollW hc1 (by omega) (by omega)).mono ?_
      rintro _ ⟨i, c2, rfl, i0, i1, hc2⟩
      simp (disch := first | omega | (simp <;> omega) | fail) [hc2.flatC]
      refine (rollW hc2 (by decide) (by decide)).mono ?_
      rintro _ ⟨w, c3, rfl, w0, w1, hc3⟩
      have cl := fun l u => cut_le xs l u
      have la := fun l u => lay_cut hl l u
      have tlx : tl (.tup xs) = xs.length := rfl
      rw [tlx]
      have bnd : (cut xs none (some i)).length = i.toNat ∧ (cut xs (some (i + 1)) none).length = xs.length - (i + 1).toNat ∧ (cut xs none (some (i + 1))).length = (i + 1).toNat ∧ (cut xs (some i) none).length = xs.length - i.toNat := by
        rw [cut_take i0, cut_drop (by omega), cut_take (by omega), cut_drop i0, List.length_take, List.length_drop, List.length_take, List.length_drop]
        omega
      have la1 := la none (some i)
      have la2 := la (some (i + 1)) none
      have la3 := la none (some (i + 1))
      have la4 := la (some i) none
      have s1 : dSl (.tup xs) none (some i) = some (.tup (cut xs none (some i))) := rfl
      have s2 : dSl (.tup xs) (some (i + 1)) none = some (.tup (cut xs (some (i + 1)) none)) := rfl
      have s3 : dSl (.tup xs) none (some (i + 1)) = some (.tup (cut xs none (some (i + 1)))) := rfl
      have s4 : dSl (.tup xs) (some i) none = some (.tup (cut xs (some i) none)) := rfl
      generalize cut xs none (some i) = X1 at *
      generalize cut xs (some (i + 1)) none = X2 at *
      generalize cut xs none (some (i + 1)) = X3 at *
      generalize cut xs (some i) none = X4 at *
      by_cases w2 : w = 0
      · subst w2
        simp (disch := first | omega | (simp <;> omega) | fail) [hc3.flatC, s1, s2, r_addT]
        exact .mk ⟨_, c3, rfl, layL_app la1 la2, by show (X1 ++ X2).length ≤ _; rw [List.length_append]; omega, hc3⟩
      have w2' : (w == 0) = false := beq_eq_false_iff_ne.mpr w2
      by_cases w3 : w = 1
      · subst w3
        simp (disch := first | omega | (simp <;> omega) | fail) [hc3.flatC, s3, s4, r_addT]
        exact .mk ⟨_, c3, rfl, layL_app la3 la4, by show (X3 ++ X4).length ≤ _; rw [List.length_append]; omega, hc3⟩
      have w3' : (w == 1) = false := beq_eq_false_iff_ne.mpr w3
      by_cases w4 : w = 2
      · subst w4
        have lb : bLst [.tup xs] = some (.lst xs) := rfl
        simp (disch := first | omega | (simp <;> omega) | fail) [hc3.flatC, lb]
        exact .mk ⟨_, c3, rfl, hl, Nat.zero_le _, hc3⟩
      have w4' : (w == 2) = false := beq_eq_false_iff_ne.mpr w4
      by_cases w5 : w = 3
      · subst w5
        have lr : dRev (.tup xs) = some (.tup xs.reverse) := rfl
        simp (disch := first | omega | (simp <;> omega) | fail) [hc3.flatC, lr]
        exact .mk ⟨_, c3, rfl, layL_of fun d hd => layL_mem hl d (List.mem_reverse.mp hd), by show xs.reverse.length ≤ _; rw [List.length_reverse]; omega, hc3⟩
      have w5' : (w == 3) = false := beq_eq_false_iff_ne.mpr w5
      have hit := at_get (xs := xs) i0 i1
      have hmem : xs[i.toNat]'(by omega) ∈ xs := List.getElem_mem (by omega)
      have hd1 : depL xs + 1 < k + 1 := hk
      have hd2 := dep_of_mem hmem
      generalize xs[i.toNat]'(by omega) = x at *
      simp (disch := first | omega | (simp <;> omega) | fail) [hc3.flatC, w2', w3', w4', w5', s1, hit, np]
      refine (ih x hc3 (hx2 x hmem) (by omega)).mono ?_
      rintro _ ⟨v, c4, rfl, hv, _, hc4⟩
      simp (disch := first | omega | (simp <;> omega) | fail) [hc4.flatC, r_addT, s2]
      exact .mk ⟨_, c4, rfl, layL_app la1 (layL_of fun d hd => by rcases List.mem_cons.mp hd with rfl | hd; exact hv; exact layL_mem la2 d hd), by show (X1 ++ v :: X2).length ≤ _; rw [List.length_append, List.length_cons]; omega, hc4⟩
end LK78

namespace LK78
open PySem PySem.Spec L2 SX EV
variable {n B : Int} {ys : List Int}
theorem cut_last {α : Type} (xs : List α) : (cut xs (some (-1)) none).length ≤ 1 := by
  unfold cut
  rw [List.length_take, List.length_drop]
  have e : HT.sIx xs.length 0 (some (-1)) = ((-1 : Int) + (xs.length : Int)).toNat := rfl
  rw [e]
  omega
theorem ddI_len : ∀ l : List Int, (ddI l).length ≤ l.length
  | [] => Nat.le_refl _
  | y :: r => by
    have := ddI_len r
    unfold ddI
    split
    · rw [List.length_cons]; omega
    · rw [List.length_cons, List.length_cons]; omega
theorem setI_len (l : List Int) : (setI l).length ≤ l.length := by
  have := ddI_len l
  unfold setI
  rw [(sortI_perm _).length_eq]
  exact this
theorem cut_map {α β : Type} (f : α → β) (xs : List α) (l u : Option Int) : cut (xs.map f) l u = (cut xs l u).map f := by
  unfold cut
  rw [List.map_take, List.map_drop, List.length_map]
/-- values that may be asked -/
def VOk (d : D) : Prop := d.lay = true ∧ ∀ xs, d = .tup xs → xs.length ≤ 62
theorem vtup {xs : List D} (h1 : layL xs = true) (h2 : xs.length ≤ 62) : VOk (.tup xs) := ⟨h1, fun ys e => by cases e; exact h2⟩
theorem vnot {d : D} (h1 : d.lay = true) (h2 : tl d = 0) : VOk d := ⟨h1, fun ys e => by subst e; have h2 : ys.length = 0 := h2; omega⟩
def pcs (r : Option (List Int)) : Option Nat := r.map fun l => l.length - 1
theorem rightW {c : D} (hc : CupI c) (h : LenP n ys) (b0 : 0 ≤ B) (b1 : B ≤ 120) : Wk (m__law_right.m [c, lenD n ys, .int B]) fun r => Hold (∃ c', r = (.bl true, [c', lenD n ys, .int B]) ∧ CupI c') := by
  rw [me__law_right]
  obtain ⟨r, gr, hr, cv⟩ := cover_v (B := B) h
  obtain ⟨r2, gr2, gv⟩ := greedy_v h b0
  obtain rfl := gr.uniq gr2
  obtain ⟨o, ho, fv⟩ := fewest_v (B := B) h
  obtain rfl : o = pcs r := ho.uniq (gr_fewest (by have := h.lo; omega) gr)
  obtain ⟨p, hp, lv⟩ := longest_v h b0 b1
  obtain ⟨p2, hp2, llv⟩ := llongest_v (B := B) h
  obtain rfl := hp.uniq hp2
  have yv := yard_v h b0 b1 cv
  have pv : m_fewest_pieces.v [lenD n ys, .int B] = .ok (optN (pcs r)) := pieces_v h b0 b1 (fun l hl => (hr l hl).1) cv
  have lk1 : m__law_like.v [.lst [optL r, optN (pcs r), optP p], .lst [optL r, optN (pcs r), optP p]] = .ok (.bl true) := by
    have s1 : (optL r).sm = true := by
      cases r with
      | none => rfl
      | some l =>
        have := (hr l rfl).2
        exact tup_sm (by rw [List.length_map]; omega) (smL_of fun d hd => by obtain ⟨_, _, rfl⟩ := List.mem_map.mp hd; rfl)
    have s2 : (optN (pcs r)).sm = true := by cases r <;> rfl
    have s3 : (optP p).sm = true := by cases p <;> rfl
    have d1 : (optL r).dep ≤ 1 := by
      cases r with
      | none => exact Nat.zero_le _
      | some l =>
        show depL (l.map D.int) + 1 ≤ 1
        rw [dep_ints0]
        exact Nat.le_refl _
    have d2 : (optN (pcs r)).dep ≤ 1 := by cases r <;> exact Nat.zero_le _
    have d3 : (optP p).dep ≤ 1 := by
      cases p with
      | none => exact Nat.zero_le _
      | some q =>
        show depL [_, _] + 1 ≤ 1
        exact Nat.le_of_eq rfl
    refine like_v (lst_sm (by simp) (by rw [smL_cons, smL_cons, smL_cons, s1, s2, s3]; rfl)) ?_
    show depL [_, _, _] + 1 < 8
    have : depL [optL r, optN (pcs r), optP p] ≤ 1 := depL_le fun d hd => by
      simp only [List.mem_cons, List.not_mem_nil, or_false] at hd
      rcases hd with rfl | rfl | rfl <;> assumption
    omega
  have isL := fun b => (show dIs b (optL r) .non = some (.bl (r.isSome == b)) by cases r <;> cases b <;> rfl)
  have h1 := h.lo
  have h2 := h.hi
  have l0 := len0 (n := n) (ys := ys)
  have l1 := len1 (n := n) (ys := ys)
  have fa := fun (s : Int) h0 h1 => faults_v (s := s) h h0 h1
  have cov1 := fun (d : D) (hd : VOk d) => cover_is_v h b0 b1 hd.1 hd.2
  have cov2 := fun (d : D) (hd : VOk d) => lcover_is_v (B := B) h hd.1 hd.2
  have ft := flt_top h
  have lkb := fun b : Bool => like_v (d := .bl b) (by cases b <;> rfl) (show (D.bl b).dep < 8 from Nat.zero_lt_succ _)
  have lki := fun i : Int => like_v (d := .int i) rfl (show (D.int i).dep < 8 from Nat.zero_lt_succ _)
  have lT : (ys.map D.int).length ≤ 40 := by rw [List.length_map]; exact h.sz
  generalize lenD n ys = L at *
  obtain ⟨T, eT⟩ : ∃ T, ys.map D.int = T := ⟨_, rfl⟩
  rw [eT] at l1 lT
  -- the base
  obtain ⟨base, hbase⟩ : ∃ base : List Int, base = r.getD [0, n] := ⟨_, rfl⟩
  have bl : 1 ≤ base.length ∧ base.length ≤ 61 := by
    rw [hbase]
    cases r with
    | none => exact ⟨show 1 ≤ 2 by decide, show 2 ≤ 61 by decide⟩
    | some l =>
      obtain ⟨a, b⟩ := hr l rfl
      refine ⟨?_, b⟩
      cases l with
      | nil => exact absurd rfl a
      | cons _ _ => show 1 ≤ _ + 1; omega
  -- all behind the choice of the base
  have rest : ∀ (c' x3 x4 x5 : D), CupI c' → Wk (T__law_right_5 [some c', some L, some (.int B), some x3, some x4, some x5, some (.tup (base.map D.int)), none, none, none, none, none, none, none]) fun r => Hold (∃ c'', CupI c'' ∧ ∃ ρ', r = (.ret (.bl true), some c'' :: some L :: some (.int B) :: ρ')) := by
    intro c' x3 x4 x5 hc'
    have lb : (base.map D.int).length = base.length := List.length_map ..
    have laB := lay_ints0 base
    have vb := vtup laB (show (base.map D.int).length ≤ 62 by omega)
    have bw := fun (c : D) (hc : CupI c) => bentW 8 (.tup (base.map D.int)) hc (tup_sm (by omega) (smL_of fun d hd => by obtain ⟨_, _, rfl⟩ := List.mem_map.mp hd; rfl)) (by show depL (base.map D.int) + 1 < 8; rw [dep_ints0]; decide)
    have bss := fun (m : Int) => (show bSortSI (.tup (base.map D.int ++ [.int m])) = some (.lst ((setI (base ++ [m])).map D.int)) by
      have e : base.map D.int ++ [.int m] = (base ++ [m]).map D.int := by rw [List.map_append]; rfl
      rw [e]
      show ((EV.dInts ((base ++ [m]).map D.int)).bind fun ns => if ns.length < 63 then some (D.lst ((setI ns).map D.int)) else none) = _
      rw [ids]
      exact if_pos (by rw [List.length_append, List.length_singleton]; omega))
    have vss := fun (m : Int) => vtup (lay_ints0 (setI (base ++ [m]))) (by have := setI_len (base ++ [m]); rw [List.length_append, List.length_singleton] at this; rw [List.length_map]; omega)
    have lss := fun (m : Int) => (show ((setI (base ++ [m])).map D.int).length ≤ 62 by have := setI_len (base ++ [m]); rw [List.length_append, List.length_singleton] at this; rw [List.length_map]; omega)
    have cl := fun l u => cut_le (base.map D.int) l u
    have clast := cut_last (base.map D.int)
    have la := fun l u => lay_cut laB l u
    -- base[:-1], each one less
    have cm := cut_map D.int base none (some (-1))
    have vmx : layL ((cut base none (some (-1))).map fun x => D.int (if x - 1 > 0 then x - 1 else 0)) = true := layL_of fun d hd => by obtain ⟨_, _, rfl⟩ := List.mem_map.mp hd; rfl
    have lmx : ((cut base none (some (-1))).map fun x => D.int (if x - 1 > 0 then x - 1 else 0)).length ≤ 61 := by have := cut_le base none (some (-1)); rw [List.length_map]; omega
    have tlb : tl (.tup (base.map D.int)) = base.length := lb
    have rv : dRev (.tup (base.map D.int)) = some (.tup (base.map D.int).reverse) := rfl
    have vrv := vtup (layL_of (xs := (base.map D.int).reverse) fun d hd => layL_mem laB d (List.mem_reverse.mp hd)) (show _ ≤ 62 by rw [List.length_reverse]; omega)
    have bls : bLst [.tup (base.map D.int)] = some (.lst (base.map D.int)) := rfl
    have vls : VOk (.lst (base.map D.int)) := vnot laB rfl
    have sl : ∀ l u, dSl (.tup (base.map D.int)) l u = some (.tup (cut (base.map D.int) l u)) := fun _ _ => rfl
    obtain ⟨X, eX⟩ : ∃ X, base.map D.int = X := ⟨_, rfl⟩
    rw [eX] at lb laB vb bw bss cl clast la cm tlb rv vrv bls vls sl ⊢
    have r1 := r_rng1 (j := n + 1) (by omega) (by omega)
    have l1r : ((List.range (n + 1).toNat).map fun (i : Nat) => D.int i).length ≤ 61 := by rw [List.length_map, List.length_range]; omega
    have v1r := vtup (layL_of (xs := (List.range (n + 1).toNat).map fun (i : Nat) => D.int i) fun d hd => by obtain ⟨_, _, rfl⟩ := List.mem_map.mp hd; rfl) (show _ ≤ 62 by omega)
    generalize ((List.range (n + 1).toNat).map fun (i : Nat) => D.int i) = R1 at *
    simp (disch := first | omega | (simp <;> omega) | fail) [T__law_right_5, lb]
    refine (rollW hc' (by omega) (by omega)).mono ?_
    rintro _ ⟨i, c1, rfl, i0, i1, hc1⟩
    simp (disch := first | omega | (simp <;> omega) | fail) [hc1.flatC, l0]
    refine (rollW hc1 (by omega) (by omega)).mono ?_
    rintro _ ⟨m, c2, rfl, m0, m1, hc2⟩
    have bm := bss m
    have vm := vss m
    have lm := lss m
    generalize (setI (base ++ [m])).map D.int = SM at *
    have ca := la none (some i)
    have cb := la (some (i + 1)) none
    have la1 := cl none (some i)
    have lb1 := cl (some (i + 1)) none
    have bnd : (cut X none (some i)).length = i.toNat ∧ (cut X (some (i + 1)) none).length = X.length - (i + 1).toNat := by
      rw [cut_take i0, cut_drop (by omega), List.length_take, List.length_drop]
      omega
    have cc := la (some (-1)) none
    have cd := la (some 1) none
    have ld1 := cl (some 1) none
    have sl1 := sl none (some i)
    have sl2 := sl (some (i + 1)) none
    have sl3 := sl (some (-1)) none
    have sl4 := sl (some 1) none
    have sl5 := sl none (some (-1))
    obtain ⟨base', eb'⟩ : ∃ b, cut base none (some (-1)) = b := ⟨_, rfl⟩
    have lb5 := cut_le base none (some (-1))
    rw [eb'] at cm vmx lmx lb5
    generalize cut X none (some i) = Y1 at *
    generalize cut X (some (i + 1)) none = Y2 at *
    generalize e3 : cut X (some (-1)) none = Y3 at *
    generalize e4 : cut X (some 1) none = Y4 at *
    simp (disch := first | omega | (simp <;> omega) | fail) [hc2.flatC, l0, r1, bm, sl1, sl2, sl3, sl4, rv, bls, r_addT, r_addL]
    simp (disch := first | omega | (simp <;> omega) | fail) [cm]
    refine wk_map1 base' D.int (fun x => .int (if x - 1 > 0 then x - 1 else 0)) rfl (fun x hx => by simp (disch := first | omega | (simp <;> omega) | fail) []) ?_
    generalize base'.map (fun x => D.int (if x - 1 > 0 then x - 1 else 0)) = Z1 at *
    simp (disch := first | omega | (simp <;> omega) | fail) [r_addT, r_addL, sl3, sl4, e3, e4]
    refine (bw c2 hc2).mono ?_
    rintro _ ⟨v, c3, rfl, hv, htl, hc3⟩
    rw [tlb] at htl
    simp (disch := first | omega | (simp <;> omega) | fail) [hc3.flatC, r_addL]
    refine wk_for _ id (fun rest ρ => ∃ y9 x10, (∀ d, d ∈ rest → VOk d) ∧ ρ = [some c3, some L, some (.int B), some x3, some x4, some x5, some (.tup X), some (.int i), some (.int m), y9, x10, none, none, none]) (List.map_id _).symm ⟨_, _, fun d hd => ?_, rfl⟩ ?_ ?_
    · simp only [List.mem_cons, List.not_mem_nil, or_false] at hd
      rcases hd with rfl | rfl | rfl | rfl | rfl | rfl | rfl | rfl | rfl | rfl | rfl | rfl | rfl
      · exact vb
      · exact v1r
      · exact vm
      · exact vtup (layL_app ca cb) (by rw [List.length_append]; omega)
      · exact vrv
      · exact vls
      · exact vtup (layL_app laB cc) (by rw [List.length_append]; omega)
      · exact vnot rfl rfl
      · exact vnot rfl rfl
      · exact vtup rfl (by decide)
      · exact vtup (layL_app vmx cc) (by rw [List.length_append]; omega)
      · exact vtup (by show (true && layL Y4) = true; rw [cd]; rfl) (by rw [List.length_cons]; omega)
      · refine ⟨hv, fun xs e => ?_⟩
        subst e
        have : xs.length ≤ base.length + 1 := htl
        omega
    · rintro d rest ρ ⟨y9, x10, hb, rfl⟩
      have c1 := cov1 d (hb d List.mem_cons_self)
      have c2 := cov2 d (hb d List.mem_cons_self)
      have c3 := lkb (covB ys B n d)
      generalize covB ys B n d = b at *
      simp (disch := first | omega | (simp <;> omega) | fail) [c1, c2, c3]
      exact .mk ⟨y9, _, fun d hd => hb d (List.mem_cons_of_mem _ hd), rfl⟩
    rintro ρ ⟨y9, x10, _, rfl⟩
    simp (disch := first | omega | (simp <;> omega) | fail) [l0]
    refine (rollW hc3 (by omega) (by omega)).mono ?_
    rintro _ ⟨s, c4, rfl, s0, s1, hc4⟩
    have f1 := fa s s0 s1
    have f2 := ft s
    simp (disch := first | omega | (simp <;> omega) | fail) [hc4.flatC, l0, l1, f1]
    refine wk_flt1 ys D.int (fun y => decide (s ≤ y)) D.int eT.symm (fun y hy => by simp (disch := first | omega | (simp <;> omega) | fail) []) ?_
    have f3 : ((ys.filter fun y => decide (s ≤ y)).map D.int).length = flt ys s n := by rw [List.length_map, f2]
    have f4 := lki (flt ys s n : Nat)
    generalize (ys.filter fun y => decide (s ≤ y)).map D.int = G at *
    simp (disch := first | omega | (simp <;> omega) | fail) [f3, f4]
    exact .mk ⟨c4, hc4, _, rfl⟩
  rw [show B__law_right = H__law_right_5 T__law_right_5 from rfl]
  generalize T__law_right_5 = TT at *
  cases r with
  | none =>
    have e1 : optL none = .non := rfl
    have hb : base = [0, n] := hbase
    subst hb
    have e2 : optN (pcs none) = .non := rfl
    rw [e1] at yv gv lk1 isL
    rw [e2] at pv fv lk1
    have i1 := isL true
    simp (disch := first | omega | (simp <;> omega) | fail) [H__law_right_5, yv, gv, fv, pv, lv, llv, lk1, i1, l0]
    refine (rest c _ _ _ hc).mono ?_
    rintro _ ⟨c', hc', ρ', rfl⟩
    simp (disch := first | omega | (simp <;> omega) | fail) [hc'.flatC]
    exact .mk ⟨c', rfl, hc'⟩
  | some l =>
    have e1 : optL (some l) = .tup (l.map D.int) := rfl
    have hb : base = l := hbase
    subst hb
    have e2 : optN (pcs (some base)) = .int ((base.length : Int) - 1) := by
      show D.int (((base.length - 1 : Nat)) : Int) = _
      congr 1
      omega
    rw [e1] at yv gv lk1 isL
    rw [e2] at pv fv lk1
    have i1 := isL true
    have lb : (base.map D.int).length = base.length := List.length_map ..
    generalize base.map D.int = X at *
    simp (disch := first | omega | (simp <;> omega) | fail) [H__law_right_5, yv, gv, fv, pv, lv, llv, lk1, i1, l0, lb]
    refine (rest c _ _ _ hc).mono ?_
    rintro _ ⟨c', hc', ρ', rfl⟩
    simp (disch := first | omega | (simp <;> omega) | fail) [hc'.flatC]
    exact .mk ⟨c', rfl, hc'⟩
end LK78

namespace LK78
open PySem PySem.Spec L2 SX EV
variable {m b : Int}
/-! ### a fault at every yard -/
def evs (m : Int) : List Int := (List.range m.toNat).map fun (k : Nat) => (k : Int)
theorem evs_mem {x : Int} : x ∈ evs m ↔ 0 ≤ x ∧ x < m := by
  unfold evs
  rw [List.mem_map]
  constructor
  · rintro ⟨k, hk, rfl⟩
    have := List.mem_range.mp hk
    omega
  · rintro ⟨h1, h2⟩
    exact ⟨x.toNat, List.mem_range.mpr (by omega), by omega⟩
theorem evs_pw : (evs m).Pairwise (· < ·) := by
  unfold evs
  exact List.Pairwise.map _ (fun a b h => by omega) List.pairwise_lt_range
theorem evs_nd : (evs m).Nodup := evs_pw.imp fun h => Int.ne_of_lt h
theorem evs_len : (evs m).length = m.toNat := by unfold evs; rw [List.length_map, List.length_range]
theorem evs_cnt (x : Int) : (evs m).count x = if x ∈ evs m then 1 else 0 := evs_nd.count
theorem evs_ok (h0 : 1 ≤ m) (h1 : m ≤ 40) : LenP m (evs m) where
  lo := h0
  hi := by omega
  sz := by rw [evs_len]; omega
  bd := fun y hy => evs_mem.mp hy
  srt := evs_pw.imp fun h => Int.le_of_lt h
  few := fun y => by rw [evs_cnt]; split <;> omega
theorem flt_evs : ∀ (k : Nat) {a c : Int}, 0 ≤ a → c ≤ m → c = a + k → flt (evs m) a c = k
  | 0, a, c, _, _, e => by
    obtain rfl : c = a := by omega
    exact flt_self _ _
  | k + 1, a, c, h0, h1, e => by
    rw [flt_split (evs m) (show a ≤ a + k by omega) (show a + (k : Int) ≤ c by omega), flt_evs k h0 (by omega) rfl, show c = a + (k : Int) + 1 by omega, flt_one, evs_cnt, if_pos (evs_mem.mpr ⟨by omega, by omega⟩)]
theorem gd_evs {a c : Int} (h0 : 0 ≤ a) (h1 : a ≤ c) (h2 : c ≤ m) : gd (evs m) b a c ↔ c - a ≤ b := by
  unfold gd
  rw [flt_evs (c - a).toNat h0 h2 (by omega)]
  omega
/-- the cuts behind the k-th -/
theorem gr_evs (hb : 1 ≤ b) : ∀ (j : Nat) (e : Int) (f : List Int), 0 ≤ e → e + j * b < m → m ≤ e + (j + 1) * b → Gr (evs m) b m e f (some (f ++ ((List.range j).map fun (i : Nat) => e + ((i : Int) + 1) * b) ++ [m]))
  | 0, e, f, h0, h1, h2 => by
    have h1' : e < m := by simpa using h1
    have h2' : m ≤ e + b := by
      have : ((0 : Nat) : Int) + 1 = 1 := rfl
      rw [this, Int.one_mul] at h2
      exact h2
    refine .step ⟨h1', Int.le_refl _, (gd_evs h0 (by omega) (Int.le_refl _)).mpr (by omega), fun x _ hx _ => hx⟩ ?_
    show Gr (evs m) b m m _ (some (f ++ [] ++ [m]))
    rw [List.append_nil]
    exact .done
  | j + 1, e, f, h0, h1, h2 => by
    have e1 : e + ((j + 1 : Nat) : Int) * b = e + b + (j : Int) * b := by
      rw [show ((j + 1 : Nat) : Int) = (j : Int) + 1 by omega, Int.add_mul, Int.one_mul]
      omega
    have e2 : e + (((j + 1 : Nat) : Int) + 1) * b = e + b + ((j : Int) + 1) * b := by
      rw [show (((j + 1 : Nat) : Int) + 1) = ((j : Int) + 1) + 1 by omega, Int.add_mul ((j : Int) + 1) 1 b, Int.one_mul]
      omega
    rw [e1] at h1
    rw [e2] at h2
    have hjb : 0 ≤ (j : Int) * b := Int.mul_nonneg (by omega) (by omega)
    have ih := gr_evs hb j (e + b) (f ++ [e + b]) (by omega) h1 h2
    refine .step (E := e + b) ⟨by omega, by omega, (gd_evs h0 (by omega) (by omega)).mpr (by omega), fun x x1 x2 x3 => ?_⟩ ?_
    · have := (gd_evs h0 (by omega) x2).mp x3
      omega
    · have e3 : (List.range (j + 1)).map (fun (i : Nat) => e + ((i : Int) + 1) * b) = (e + b) :: (List.range j).map fun (i : Nat) => e + b + ((i : Int) + 1) * b := by
        rw [List.range_succ_eq_map, List.map_cons, List.map_map]
        congr 1
        · show e + (((0 : Nat) : Int) + 1) * b = e + b
          have : ((0 : Nat) : Int) + 1 = 1 := rfl
          rw [this, Int.one_mul]
        · refine List.map_congr_left fun i _ => ?_
          show e + (((i + 1 : Nat) : Int) + 1) * b = e + b + ((i : Int) + 1) * b
          rw [show (((i + 1 : Nat) : Int) + 1) = ((i : Int) + 1) + 1 by omega, Int.add_mul ((i : Int) + 1) 1 b, Int.one_mul]
          omega
      rw [e3]
      have e4 : f ++ (e + b) :: (List.range j).map (fun (i : Nat) => e + b + ((i : Int) + 1) * b) = f ++ [e + b] ++ (List.range j).map fun (i : Nat) => e + b + ((i : Int) + 1) * b := by simp
      rw [e4]
      exact ih
def dueL (m b : Int) (c : Nat) : List Int := ((List.range c).map fun (i : Nat) => (i : Int) * b) ++ [m]
theorem gr_due {c : Nat} (hb : 1 ≤ b) (h1 : (c : Int) * b < m) (h2 : m ≤ ((c : Int) + 1) * b) : Gr (evs m) b m 0 [0] (some (dueL m b (c + 1))) := by
  have := gr_evs (m := m) hb c 0 [0] (Int.le_refl _) (by omega) (by omega)
  have e : dueL m b (c + 1) = [0] ++ ((List.range c).map fun (i : Nat) => (0 : Int) + ((i : Int) + 1) * b) ++ [m] := by
    unfold dueL
    congr 1
    rw [List.range_succ_eq_map, List.map_cons, List.map_map]
    show _ :: _ = 0 :: _
    congr 1
    · show ((0 : Nat) : Int) * b = 0
      exact Int.zero_mul b
    · refine List.map_congr_left fun i _ => ?_
      show ((i + 1 : Nat) : Int) * b = 0 + ((i : Int) + 1) * b
      rw [show ((i + 1 : Nat) : Int) = (i : Int) + 1 by omega]
      omega
  rw [e]
  exact this
theorem lg_evs (h0 : 1 ≤ m) (hb : 1 ≤ b) : LG (evs m) b m (some (0, if b < m then b else m)) := by
  have hm : (if b < m then b else m) ≤ m ∧ (if b < m then b else m) ≤ b ∧ 0 < (if b < m then b else m) := by split <;> omega
  refine ⟨Int.le_refl _, hm.2.2, hm.1, (gd_evs (Int.le_refl _) (Int.le_of_lt hm.2.2) hm.1).mpr (by show (if b < m then b else m) - 0 ≤ b; omega), fun s e h1 h2 h3 h4 => ?_⟩
  have := (gd_evs h1 (Int.le_of_lt h2) h3).mp h4
  show e - s ≤ (if b < m then b else m) - 0 ∧ _
  refine ⟨?_, fun _ => h1⟩
  split <;> omega
/-! the range by steps -/
theorem rg_all : ∀ (x : Fin 40) (y : Fin 9), Builtin.Range.small 0 ((x.val : Int) + 1) ((y.val : Int) + 1) = true ∧ Builtin.Range.rangeSize 0 ((x.val : Int) + 1) ((y.val : Int) + 1) = (((x.val / (y.val + 1)) + 1 : Nat) : Int) ∧ (x.val / (y.val + 1)) * (y.val + 1) < x.val + 1 ∧ x.val + 1 ≤ ((x.val / (y.val + 1)) + 1) * (y.val + 1) := by decide +kernel
theorem rng3_eq (i j c : Int) : rng3 [.int i, .int j, .int c] = if c ≠ 0 ∧ c.natAbs < 1073741824 ∧ Builtin.Range.small i j c = true ∧ 0 ≤ Builtin.Range.rangeSize i j c then some (rng i c (Builtin.Range.rangeSize i j c).toNat) else none := rfl
theorem r_steps (h0 : 1 ≤ m) (h1 : m ≤ 40) (h2 : 1 ≤ b) (h3 : b ≤ 9) : ∃ c : Nat, c ≤ 40 ∧ (c : Int) * b < m ∧ m ≤ ((c : Int) + 1) * b ∧ rng3 [.int 0, .int m, .int b] = some ((List.range (c + 1)).map fun (i : Nat) => D.int ((i : Int) * b)) := by
  obtain ⟨x, rfl⟩ : ∃ x : Nat, m = (x : Int) + 1 := ⟨(m - 1).toNat, by omega⟩
  obtain ⟨y, rfl⟩ : ∃ y : Nat, b = (y : Int) + 1 := ⟨(b - 1).toNat, by omega⟩
  obtain ⟨a1, a2, a3, a4⟩ := rg_all ⟨x, by omega⟩ ⟨y, by omega⟩
  have a1 : Builtin.Range.small 0 ((x : Int) + 1) ((y : Int) + 1) = true := a1
  have a2 : Builtin.Range.rangeSize 0 ((x : Int) + 1) ((y : Int) + 1) = (((x / (y + 1)) + 1 : Nat) : Int) := a2
  have a3 : (x / (y + 1)) * (y + 1) < x + 1 := a3
  have a4 : x + 1 ≤ ((x / (y + 1)) + 1) * (y + 1) := a4
  have a5 : x / (y + 1) ≤ x := Nat.div_le_self _ _
  generalize x / (y + 1) = c at *
  refine ⟨c, by omega, ?_, ?_, ?_⟩
  · have := Int.ofNat_lt.mpr a3
    rw [Int.natCast_mul] at this
    simpa using this
  · have := Int.ofNat_le.mpr a4
    rw [Int.natCast_mul] at this
    simpa using this
  · have z1 : (y : Int) + 1 ≠ 0 := by omega
    have z2 : ((y : Int) + 1).natAbs < 1073741824 := by omega
    have z3 : 0 ≤ Builtin.Range.rangeSize 0 ((x : Int) + 1) ((y : Int) + 1) := by rw [a2]; omega
    have hc : (y : Int) + 1 ≠ 0 ∧ ((y : Int) + 1).natAbs < 1073741824 ∧ Builtin.Range.small 0 ((x : Int) + 1) ((y : Int) + 1) = true ∧ 0 ≤ Builtin.Range.rangeSize 0 ((x : Int) + 1) ((y : Int) + 1) := ⟨z1, z2, a1, z3⟩
    refine (rng3_eq _ _ _).trans ((if_pos hc).trans ?_)
    have e : (Builtin.Range.rangeSize 0 ((x : Int) + 1) ((y : Int) + 1)).toNat = c + 1 := by omega
    refine congrArg some ((congrArg (rng 0 ((y : Int) + 1)) e).trans ?_)
    unfold rng
    exact List.map_congr_left fun k _ => congrArg D.int (Int.zero_add _)
end LK78

namespace LK78
open PySem PySem.Spec L2 SX EV
abbrev LL : D := .tup [.int 10, .tup [.int 2, .int 2, .int 6]]
theorem w1 : m_fewest_pieces.v [LL, .int 0] = .ok .non := by kernel_rfl
theorem w2 : m_fewest_pieces.v [LL, .int 1] = .ok .non := by kernel_rfl
theorem w3 : m_fewest_pieces.v [LL, .int 2] = .ok (.int 2) := by kernel_rfl
theorem w4 : m_yard_cover.v [LL, .int 2] = .ok (.tup [.int 0, .int 6, .int 10]) := by kernel_rfl
theorem w5 : m_is_yard_cover.v [LL, .int 2, .tup [.int 0, .int 5, .int 10]] = .ok (.bl true) := by kernel_rfl
theorem w6 : m_longest_good.v [LL, .int 0] = .ok (.tup [.int 3, .int 6]) := by kernel_rfl
theorem w7 : m_longest_good.v [LL, .int 1] = .ok (.tup [.int 3, .int 10]) := by kernel_rfl
theorem w8 : m_fewest_pieces.v [LL, .int 3] = .ok (.int 1) := by kernel_rfl
theorem w9 : m_yard_cover.v [LL, .int 120] = .ok (.tup [.int 0, .int 10]) := by kernel_rfl
theorem w10 : m_longest_good.v [.tup [.int 2, .tup [.int 0, .int 0, .int 1, .int 1]], .int 1] = .ok .non := by kernel_rfl
def TOLD : D := .lst [.non, .non, .int 2, .tup [.int 0, .int 6, .int 10], .bl true, .tup [.int 3, .int 6], .tup [.int 3, .int 10], .int 1, .tup [.int 0, .int 10], .non]
theorem lkT : m__law_like.v [TOLD, TOLD] = .ok (.bl true) := like_v (by decide +kernel) (by decide +kernel)
theorem law_true (ns : List Int) (hl : ns.length ≤ 63) : ∃ o, m_law.m [.scr ns] = .ok (.bl true, o) := by
  suffices h : Wk (m_law.m [.scr ns]) fun r => ∃ o : List D, r = (.bl true, o) by
    obtain ⟨r, e, o, rfl⟩ := h
    exact ⟨o, e⟩
  have lk := lkT
  unfold TOLD at lk
  rw [me_law]
  simp (disch := first | omega | (simp <;> omega) | fail) [B_law]
  refine (cupW hl).mono ?_
  intro c hc
  simp (disch := first | omega | (simp <;> omega) | fail) [w1, w2, w3, w4, w5, w6, w7, w8, w9, w10, r_addL, lk, r_rng1]
  refine wk_forN 5 (fun k => .int k) (fun k ρ => ∃ c x2 x3 x4, CupI c ∧ ρ = [some (.scr ns), some c, x2, x3, x4, none, none, none, none]) rfl ⟨c, _, _, _, hc, rfl⟩ ?_ ?_
  · rintro k ρ hk ⟨c, x2, x3, x4, hc, rfl⟩
    simp (disch := first | omega | (simp <;> omega) | fail) []
    refine (someW hc (by decide) (by decide)).mono ?_
    rintro _ ⟨x, c1, rfl, hx, hc1⟩
    obtain ⟨m, rfl, m0, m1⟩ : ∃ m : Int, x = .int m ∧ 1 ≤ m ∧ m ≤ 60 := by
      simp at hx
      rcases hx with rfl | rfl | rfl <;> exact ⟨_, rfl, by decide, by decide⟩
    simp (disch := first | omega | (simp <;> omega) | fail) [hc1.flatC]
    refine (lengthsW hc1 m0 m1).mono ?_
    rintro _ ⟨n, ys, c2, rfl, hlen, hc2⟩
    simp (disch := first | omega | (simp <;> omega) | fail) [hc2.flatC]
    refine (someW hc2 (by decide) (by decide)).mono ?_
    rintro _ ⟨x, c3, rfl, hx, hc3⟩
    obtain ⟨B, rfl, B0, B1⟩ : ∃ m : Int, x = .int m ∧ 0 ≤ m ∧ m ≤ 120 := by
      simp at hx
      rcases hx with rfl | rfl | rfl | rfl | rfl <;> exact ⟨_, rfl, by decide, by decide⟩
    have rw' := rightW (c := c3) hc3 hlen B0 B1
    generalize lenD n ys = L at *
    simp (disch := first | omega | (simp <;> omega) | fail) [hc3.flatC]
    refine rw'.mono ?_
    rintro _ ⟨c4, rfl, hc4⟩
    simp (disch := first | omega | (simp <;> omega) | fail) [hc4.flatC]
    exact .mk ⟨c4, _, _, _, hc4, rfl⟩
  rintro ρ ⟨c, x2, x3, x4, hc, rfl⟩
  simp (disch := first | omega | (simp <;> omega) | fail) []
  refine (rollW hc (by decide) (by decide)).mono ?_
  rintro _ ⟨i, c1, rfl, i0, i1, hc1⟩
  obtain ⟨b, eb⟩ : ∃ b : Int, 1 + i = b := ⟨_, rfl⟩
  simp (disch := first | omega | (simp <;> omega) | fail) [hc1.flatC, eb]
  refine (rollW hc1 (by decide) (by decide)).mono ?_
  rintro _ ⟨j, c2, rfl, j0, j1, hc2⟩
  obtain ⟨m, em⟩ : ∃ m : Int, 1 + j = m := ⟨_, rfl⟩
  have hok := evs_ok (m := m) (by omega) (by omega)
  obtain ⟨q, q1, q2, q3, rs⟩ := r_steps (m := m) (b := b) (by omega) (by omega) (by omega) (by omega)
  obtain ⟨r, gr, hr, cv⟩ := cover_v (B := b) hok
  have gr2 := gr_due (m := m) (b := b) (c := q) (by omega) q2 q3
  obtain rfl := gr.uniq gr2
  have yv := yard_v hok (by omega) (by omega) cv
  have pv := pieces_v hok (by omega) (by omega) (fun l hl => (hr l hl).1) cv
  obtain ⟨p, hp, lv⟩ := longest_v (B := b) hok (by omega) (by omega)
  obtain rfl := hp.uniq (lg_evs (by omega) (by omega))
  have dl : (dueL m b (q + 1)).length = q + 2 := by unfold dueL; rw [List.length_append, List.length_map, List.length_range]; rfl
  have e1 : optL (some (dueL m b (q + 1))) = .tup ((dueL m b (q + 1)).map D.int) := rfl
  have e2 : lenO (some (dueL m b (q + 1))) = .int ((q : Int) + 1) := by
    show D.int (((dueL m b (q + 1)).length - 1 : Nat) : Int) = _
    rw [dl]
    congr 1
  have e3 : optP (some (0, if b < m then b else m)) = .tup [.int 0, .int (if b < m then b else m)] := rfl
  rw [e1] at yv
  rw [e2] at pv
  rw [e3] at lv
  have r1 := r_rng1 (j := m) (by omega) (by omega)
  have eev : ((List.range m.toNat).map fun (k : Nat) => D.int k) = (evs m).map D.int := by unfold evs; rw [List.map_map]; rfl
  rw [eev] at r1
  have lE : ((evs m).map D.int).length ≤ 40 := by rw [List.length_map, evs_len]; omega
  have eD : (List.range (q + 1)).map (fun (i : Nat) => D.int ((i : Int) * b)) ++ [.int m] = (dueL m b (q + 1)).map D.int := by unfold dueL; rw [List.map_append, List.map_map]; rfl
  have lS : ((List.range (q + 1)).map fun (i : Nat) => D.int ((i : Int) * b)).length = q + 1 := by rw [List.length_map, List.length_range]
  have dD : ((dueL m b (q + 1)).map D.int).length = q + 2 := by rw [List.length_map, dl]
  have lk2 : m__law_like.v [.lst [.tup ((dueL m b (q + 1)).map D.int), .int ((q : Int) + 1), .tup [.int 0, .int (if b < m then b else m)]], .lst [.tup ((dueL m b (q + 1)).map D.int), .int ((q : Int) + 1), .tup [.int 0, .int (if b < m then b else m)]]] = .ok (.bl true) := by
    refine like_v (lst_sm (by simp) ?_) ?_
    · rw [smL_cons, smL_cons, smL_cons, show (D.tup ((dueL m b (q + 1)).map D.int)).sm = true from tup_sm (by omega) (smL_of fun d hd => by obtain ⟨_, _, rfl⟩ := List.mem_map.mp hd; rfl)]
      rfl
    · show depL [_, _, _] + 1 < 8
      have : depL [.tup ((dueL m b (q + 1)).map D.int), .int ((q : Int) + 1), .tup [.int 0, .int (if b < m then b else m)]] ≤ 1 := depL_le fun d hd => by
        simp only [List.mem_cons, List.not_mem_nil, or_false] at hd
        rcases hd with rfl | rfl | rfl
        · show depL ((dueL m b (q + 1)).map D.int) + 1 ≤ 1
          rw [dep_ints0]
          exact Nat.le_refl _
        · exact Nat.zero_le _
        · exact Nat.le_of_eq rfl
      omega
  have lenE : lenD m (evs m) = .tup [.int m, .tup ((evs m).map D.int)] := rfl
  rw [lenE] at yv pv lv
  generalize (evs m).map D.int = E at *
  generalize (dueL m b (q + 1)).map D.int = DD at *
  generalize (List.range (q + 1)).map (fun (i : Nat) => D.int ((i : Int) * b)) = SS at *
  simp (disch := first | omega | (simp <;> omega) | fail) [hc2.flatC, em, r1, rs, r_addL, eD, yv, pv, lv, dD]
  have e9 : (q : Int) + 2 - 1 = (q : Int) + 1 := by omega
  simp (disch := first | omega | (simp <;> omega) | fail) [e9, lk2]
end LK78

namespace LK78
open PySem PySem.Spec L2 SX EV
open PyProof.Rows hiding St
/-! the head -/
def d__law_cup : He.DefD := ⟨("_law_cup", none), "_law_cup", "_law_cup", defArgs (top 26), defBody (top 26), defScope (top 26), [], []⟩
def d__law_sort : He.DefD := ⟨("_law_sort", none), "_law_sort", "_law_sort", defArgs (top 29), defBody (top 29), defScope (top 29), [], []⟩
def d__law_like : He.DefD := ⟨("_law_like", none), "_law_like", "_law_like", defArgs (top 30), defBody (top 30), defScope (top 30), [], []⟩
def d_is_tuple_of : He.DefD := ⟨("is_tuple_of", none), "is_tuple_of", "is_tuple_of", defArgs (top 6), defBody (top 6), defScope (top 6), [], []⟩
def d_is_whole : He.DefD := ⟨("is_whole", none), "is_whole", "is_whole", defArgs (top 5), defBody (top 5), defScope (top 5), [], []⟩
def d_fits_lengths : He.DefD := ⟨("fits_lengths", none), "fits_lengths", "fits_lengths", defArgs (top 13), defBody (top 13), defScope (top 13), [], []⟩
def d_need_lengths : He.DefD := ⟨("need_lengths", none), "need_lengths", "need_lengths", defArgs (top 14), defBody (top 14), defScope (top 14), [], []⟩
def d_need_bound : He.DefD := ⟨("need_bound", none), "need_bound", "need_bound", defArgs (top 19), defBody (top 19), defScope (top 19), [], []⟩
def d_sums_of : He.DefD := ⟨("sums_of", none), "sums_of", "sums_of", defArgs (top 16), defBody (top 16), defScope (top 16), [], []⟩
def d_is_good : He.DefD := ⟨("is_good", none), "is_good", "is_good", defArgs (top 17), defBody (top 17), defScope (top 17), [], []⟩
def d_cover_in : He.DefD := ⟨("cover_in", none), "cover_in", "cover_in", defArgs (top 18), defBody (top 18), defScope (top 18), [], []⟩
def d_fewest_pieces : He.DefD := ⟨("fewest_pieces", none), "fewest_pieces", "fewest_pieces", defArgs (top 21), defBody (top 21), defScope (top 21), [], []⟩
def d_yard_cover : He.DefD := ⟨("yard_cover", none), "yard_cover", "yard_cover", defArgs (top 22), defBody (top 22), defScope (top 22), [], []⟩
def d_is_rising : He.DefD := ⟨("is_rising", none), "is_rising", "is_rising", defArgs (top 7), defBody (top 7), defScope (top 7), [], []⟩
def d_is_yard_cover : He.DefD := ⟨("is_yard_cover", none), "is_yard_cover", "is_yard_cover", defArgs (top 23), defBody (top 23), defScope (top 23), [], []⟩
def d__law_roll : He.DefD := ⟨("_law_roll", none), "_law_roll", "_law_roll", defArgs (top 27), defBody (top 27), defScope (top 27), [], []⟩
def d__law_some : He.DefD := ⟨("_law_some", none), "_law_some", "_law_some", defArgs (top 28), defBody (top 28), defScope (top 28), [], []⟩
def d__law_lengths : He.DefD := ⟨("_law_lengths", none), "_law_lengths", "_law_lengths", defArgs (top 32), defBody (top 32), defScope (top 32), [], []⟩
def d_longest_good : He.DefD := ⟨("longest_good", none), "longest_good", "longest_good", defArgs (top 24), defBody (top 24), defScope (top 24), [], []⟩
def d__law_faults : He.DefD := ⟨("_law_faults", none), "_law_faults", "_law_faults", defArgs (top 33), defBody (top 33), defScope (top 33), [], []⟩
def d__law_fewest : He.DefD := ⟨("_law_fewest", none), "_law_fewest", "_law_fewest", defArgs (top 34), defBody (top 34), defScope (top 34), [], []⟩
def d__law_greedy : He.DefD := ⟨("_law_greedy", none), "_law_greedy", "_law_greedy", defArgs (top 36), defBody (top 36), defScope (top 36), [], []⟩
def d_need_span : He.DefD := ⟨("need_span", none), "need_span", "need_span", defArgs (top 15), defBody (top 15), defScope (top 15), [], []⟩
def d_faults_in : He.DefD := ⟨("faults_in", none), "faults_in", "faults_in", defArgs (top 20), defBody (top 20), defScope (top 20), [], []⟩
def d__law_bent : He.DefD := ⟨("_law_bent", none), "_law_bent", "_law_bent", defArgs (top 31), defBody (top 31), defScope (top 31), [], []⟩
def d__law_longest : He.DefD := ⟨("_law_longest", none), "_law_longest", "_law_longest", defArgs (top 37), defBody (top 37), defScope (top 37), [], []⟩
def d__law_is_cover : He.DefD := ⟨("_law_is_cover", none), "_law_is_cover", "_law_is_cover", defArgs (top 35), defBody (top 35), defScope (top 35), [], []⟩
def d__law_right : He.DefD := ⟨("_law_right", none), "_law_right", "_law_right", defArgs (top 38), defBody (top 38), defScope (top 38), [], []⟩
def d_law : He.DefD := ⟨("law", none), "law", "law", defArgs (top 39), defBody (top 39), defScope (top 39), [], []⟩
def hfn : List He.DefD := [d__law_cup, d__law_sort, d__law_like, d_is_tuple_of, d_is_whole, d_fits_lengths, d_need_lengths, d_need_bound, d_sums_of, d_is_good, d_cover_in, d_fewest_pieces, d_yard_cover, d_is_rising, d_is_yard_cover, d__law_roll, d__law_some, d__law_lengths, d_longest_good, d__law_faults, d__law_fewest, d__law_greedy, d_need_span, d_faults_in, d__law_bent, d__law_longest, d__law_is_cover, d__law_right, d_law]
def hfa : List He.Fa := [.glo "_law_cup", .glo "_law_sort", .glo "_law_like", .glo "is_tuple_of", .glo "is_whole", .glo "fits_lengths", .glo "need_lengths", .glo "need_bound", .glo "sums_of", .glo "is_good", .glo "cover_in", .glo "fewest_pieces", .glo "yard_cover", .glo "is_rising", .glo "is_yard_cover", .glo "_law_roll", .glo "_law_some", .glo "_law_lengths", .glo "longest_good", .glo "_law_faults", .glo "_law_fewest", .glo "_law_greedy", .glo "need_span", .glo "faults_in", .glo "_law_bent", .glo "_law_longest", .glo "_law_is_cover", .glo "_law_right", .glo "law", .free "abs", .free "all", .free "bool", .free "int", .free "isinstance", .free "len", .free "list", .free "max", .free "min", .free "range", .free "set", .free "sorted", .free "str", .free "tuple", .free "zip", .int "BOUND" 120, .int "FAULTS" 40, .int "LONGEST" 60, .int "OFTEN" 3]
theorem G_of {K : PySem.W.Frag} {h : Heap} {mg : Str → Option Value} (KX : K.In h) (Gm : h.Ns mainGlobals mg) (c : He.SaysD hfa hfn K) : G K mg where
  f__law_cup := c.def_ 0 (d := d__law_cup) rfl
  g__law_cup := He.glo_ok KX Gm (c.fact 0 (f := .glo "_law_cup") rfl)
  f__law_sort := c.def_ 1 (d := d__law_sort) rfl
  g__law_sort := He.glo_ok KX Gm (c.fact 1 (f := .glo "_law_sort") rfl)
  f__law_like := c.def_ 2 (d := d__law_like) rfl
  g__law_like := He.glo_ok KX Gm (c.fact 2 (f := .glo "_law_like") rfl)
  f_is_tuple_of := c.def_ 3 (d := d_is_tuple_of) rfl
  g_is_tuple_of := He.glo_ok KX Gm (c.fact 3 (f := .glo "is_tuple_of") rfl)
  f_is_whole := c.def_ 4 (d := d_is_whole) rfl
  g_is_whole := He.glo_ok KX Gm (c.fact 4 (f := .glo "is_whole") rfl)
  f_fits_lengths := c.def_ 5 (d := d_fits_lengths) rfl
  g_fits_lengths := He.glo_ok KX Gm (c.fact 5 (f := .glo "fits_lengths") rfl)
  f_need_lengths := c.def_ 6 (d := d_need_lengths) rfl
  g_need_lengths := He.glo_ok KX Gm (c.fact 6 (f := .glo "need_lengths") rfl)
  f_need_bound := c.def_ 7 (d := d_need_bound) rfl
  g_need_bound := He.glo_ok KX Gm (c.fact 7 (f := .glo "need_bound") rfl)
  f_sums_of := c.def_ 8 (d := d_sums_of) rfl
  g_sums_of := He.glo_ok KX Gm (c.fact 8 (f := .glo "sums_of") rfl)
  f_is_good := c.def_ 9 (d := d_is_good) rfl
  g_is_good := He.glo_ok KX Gm (c.fact 9 (f := .glo "is_good") rfl)
  f_cover_in := c.def_ 10 (d := d_cover_in) rfl
  g_cover_in := He.glo_ok KX Gm (c.fact 10 (f := .glo "cover_in") rfl)
  f_fewest_pieces := c.def_ 11 (d := d_fewest_pieces) rfl
  g_fewest_pieces := He.glo_ok KX Gm (c.fact 11 (f := .glo "fewest_pieces") rfl)
  f_yard_cover := c.def_ 12 (d := d_yard_cover) rfl
  g_yard_cover := He.glo_ok KX Gm (c.fact 12 (f := .glo "yard_cover") rfl)
  f_is_rising := c.def_ 13 (d := d_is_rising) rfl
  g_is_rising := He.glo_ok KX Gm (c.fact 13 (f := .glo "is_rising") rfl)
  f_is_yard_cover := c.def_ 14 (d := d_is_yard_cover) rfl
  g_is_yard_cover := He.glo_ok KX Gm (c.fact 14 (f := .glo "is_yard_cover") rfl)
  f__law_roll := c.def_ 15 (d := d__law_roll) rfl
  g__law_roll := He.glo_ok KX Gm (c.fact 15 (f := .glo "_law_roll") rfl)
  f__law_some := c.def_ 16 (d := d__law_some) rfl
  g__law_some := He.glo_ok KX Gm (c.fact 16 (f := .glo "_law_some") rfl)
  f__law_lengths := c.def_ 17 (d := d__law_lengths) rfl
  g__law_lengths := He.glo_ok KX Gm (c.fact 17 (f := .glo "_law_lengths") rfl)
  f_longest_good := c.def_ 18 (d := d_longest_good) rfl
  g_longest_good := He.glo_ok KX Gm (c.fact 18 (f := .glo "longest_good") rfl)
  f__law_faults := c.def_ 19 (d := d__law_faults) rfl
  g__law_faults := He.glo_ok KX Gm (c.fact 19 (f := .glo "_law_faults") rfl)
  f__law_fewest := c.def_ 20 (d := d__law_fewest) rfl
  g__law_fewest := He.glo_ok KX Gm (c.fact 20 (f := .glo "_law_fewest") rfl)
  f__law_greedy := c.def_ 21 (d := d__law_greedy) rfl
  g__law_greedy := He.glo_ok KX Gm (c.fact 21 (f := .glo "_law_greedy") rfl)
  f_need_span := c.def_ 22 (d := d_need_span) rfl
  g_need_span := He.glo_ok KX Gm (c.fact 22 (f := .glo "need_span") rfl)
  f_faults_in := c.def_ 23 (d := d_faults_in) rfl
  g_faults_in := He.glo_ok KX Gm (c.fact 23 (f := .glo "faults_in") rfl)
  f__law_bent := c.def_ 24 (d := d__law_bent) rfl
  g__law_bent := He.glo_ok KX Gm (c.fact 24 (f := .glo "_law_bent") rfl)
  f__law_longest := c.def_ 25 (d := d__law_longest) rfl
  g__law_longest := He.glo_ok KX Gm (c.fact 25 (f := .glo "_law_longest") rfl)
  f__law_is_cover := c.def_ 26 (d := d__law_is_cover) rfl
  g__law_is_cover := He.glo_ok KX Gm (c.fact 26 (f := .glo "_law_is_cover") rfl)
  f__law_right := c.def_ 27 (d := d__law_right) rfl
  g__law_right := He.glo_ok KX Gm (c.fact 27 (f := .glo "_law_right") rfl)
  f_law := c.def_ 28 (d := d_law) rfl
  g_law := He.glo_ok KX Gm (c.fact 28 (f := .glo "law") rfl)
  b_abs := He.free_ok KX Gm (c.fact 29 (f := .free "abs") rfl)
  b_all := He.free_ok KX Gm (c.fact 30 (f := .free "all") rfl)
  b_bool := He.free_ok KX Gm (c.fact 31 (f := .free "bool") rfl)
  b_int := He.free_ok KX Gm (c.fact 32 (f := .free "int") rfl)
  b_isinstance := He.free_ok KX Gm (c.fact 33 (f := .free "isinstance") rfl)
  b_len := He.free_ok KX Gm (c.fact 34 (f := .free "len") rfl)
  b_list := He.free_ok KX Gm (c.fact 35 (f := .free "list") rfl)
  b_max := He.free_ok KX Gm (c.fact 36 (f := .free "max") rfl)
  b_min := He.free_ok KX Gm (c.fact 37 (f := .free "min") rfl)
  b_range := He.free_ok KX Gm (c.fact 38 (f := .free "range") rfl)
  b_set := He.free_ok KX Gm (c.fact 39 (f := .free "set") rfl)
  b_sorted := He.free_ok KX Gm (c.fact 40 (f := .free "sorted") rfl)
  b_str := He.free_ok KX Gm (c.fact 41 (f := .free "str") rfl)
  b_tuple := He.free_ok KX Gm (c.fact 42 (f := .free "tuple") rfl)
  b_zip := He.free_ok KX Gm (c.fact 43 (f := .free "zip") rfl)
  i_BOUND := He.int_ok KX Gm (c.fact 44 (f := .int "BOUND" 120) rfl)
  i_FAULTS := He.int_ok KX Gm (c.fact 45 (f := .int "FAULTS" 40) rfl)
  i_LONGEST := He.int_ok KX Gm (c.fact 46 (f := .int "LONGEST" 60) rfl)
  i_OFTEN := He.int_ok KX Gm (c.fact 47 (f := .int "OFTEN" 3) rfl)
abbrev hR : PySem.W.OpenRow := PySem.W.OpenLaw.row PySem.Challenge.rw_clothholds_k78_whole_covers_and_long_pie
abbrev hK : PySem.W.Hook := He.hookD 4 hfa hfn
def hob (s : PySem.W.SharedT) : He.AlD := He.obsDG 4 hfa hfn (HandSHeadRun.getT s)
theorem hob_eq (s : PySem.W.SharedT) : hob s = hK.obs s.abs := He.obsDG_eq (HandSHeadRun.getT_eq s)
def hloose : List Str := (["ClothError", "InvalidFaults", "InvalidNumber", "is_whole", "is_tuple_of", "is_rising", "LONGEST", "FAULTS", "OFTEN", "BOUND", "fits_lengths", "need_lengths", "need_span", "sums_of", "is_good", "cover_in", "need_bound", "faults_in", "fewest_pieces", "yard_cover", "is_yard_cover", "longest_good", "_law_cup", "_law_roll", "_law_some", "_law_sort", "_law_like", "_law_bent", "_law_lengths", "_law_faults"] : List Str) ++ (["_law_fewest", "_law_is_cover", "_law_greedy", "_law_longest", "_law_right"] : List Str)
theorem hrun (w : World) : HandSHeadRun.RunEq hR (PySem.W.view hR.prog [39]) hK hob 4000 hloose w := by
  intro os
  kernel_rfl
end LK78
open PySem PySem.W PySem.Calls PyProof.Rows
theorem PySem.Challenge.cw_clothholds_k78_whole_covers_and_long_pie_holds : PySem.Challenge.rw_clothholds_k78_whole_covers_and_long_pie.Holds := by
  w_on; o_law
  refine HandSHeadRun.head_any (r := OpenLaw.row PySem.Challenge.rw_clothholds_k78_whole_covers_and_long_pie) (q := view (OpenLaw.row PySem.Challenge.rw_clothholds_k78_whole_covers_and_long_pie).prog [39]) (H := LK78.hK) (ob := LK78.hob) (M := 4000) (loose := LK78.hloose) (d := HandSHeadRun.topDef (OpenLaw.row PySem.Challenge.rw_clothholds_k78_whole_covers_and_long_pie).prog 39) (kwd := []) LK78.hob_eq
    (by kernel_rfl) (fun s => by kernel_rfl) LK78.hrun (by kernel_rfl) (by kernel_rfl) (by kernel_rfl) (by rfl) (by first | assumption | decide +kernel) (by decide +kernel) ⟨rfl, rfl, rfl, rfl, rfl, by decide +kernel⟩ ?hw ?hc
  case hw => w_witness2
  case hc =>
    refine L2.walk_ofE (l := PySem.Challenge.rw_clothholds_k78_whole_covers_and_long_pie) (n := 63) (k := 12) (x := "script") (CX := L2.CX0) rfl (by decide) (by kernel_rfl) ⟨rfl, by decide, by decide⟩ ?F (fun _ _ _ _ z => z)
    intro w mg fa h Y G hmg0
    obtain ⟨K, KX, c⟩ := Y
    have hmg : mg ("law" : PySem.Str) = some (.ref fa) := by
      have e : (HandSHeadRun.topDef (OpenLaw.row PySem.Challenge.rw_clothholds_k78_whole_covers_and_long_pie).prog 39).name = ("law" : PySem.Str) := by kernel_rfl
      rw [← e]
      exact hmg0
    have g := LK78.G_of KX G c
    have ef := hmg.symm.trans g.g_law
    cases ef
    obtain ⟨fd, F⟩ := g.f_law
    have b := L2.FunD.bindsA (ps := ["script"]) F fun _ _ _ _ _ _ us hl => match us, hl with | [_], _ => rfl
    exact ⟨K, fd, fun vs H Q _ => EV.spF K (LK78.S0 K) LK78.m_law vs H Q fun _ _ _ => False, KX, fun s v => b s [v] rfl, fun H a ns hl _ hS => EV.law_sp rfl rfl hS (LK78.law_true ns hl), fun base _ _ => EV.fn_calm (LK78.f_law_ok g F)⟩
