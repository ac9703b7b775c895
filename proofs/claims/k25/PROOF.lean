import PyProof.Rows.All
import Wide.All
import OpenK.AllK
import Wide.FinOn
import HandS.ForMost
import HandS.Deep
import HandS.Walk
import HandS.Zip
import HandS.TupSets
import HandS.Conv
import HandS.Defaults
import HandS.IsInst
import HandS.Gcd
import HandS.WideBits
import HandS.TupAny
import HandS.TupMul
import HandS.Flow
import HandS.Style
import PyProof.ReprRoads
import KE.KDictPairs
import KE.GoesMore
import KE.SortData
import HandS.SortInts
import HandS.Ends
import HandS.ExcInit
import HandS.ExcField
import HandS.ExcOwn
import KE.KTryMore
import KE.KExcIs
import HandS.ExcIs
import HandS.Text
import HandS.Steps
import KE.GoesZip
import KE.GoesEnum
import PySem.Challenge.RW_laidbytwos_k25_whole_laid_or_a_lack
set_option Elab.async false
set_option linter.all false
set_option maxRecDepth 100000
/-! Dicts whose keys are tuples of ints (tracked, frozen or of the module), any values: get, in, put, new, dict(pairs). -/
namespace L2
open PySem PySem.Spec PyProof.Rows

abbrev DL3 := List (List Int × Addr × V)
abbrev DRel : DL3 → List (List Int × Addr × Value) → Prop := Paired fun p q => p.1 = q.1 ∧ p.2.1 = q.2.1 ∧ RelV p.2.2 q.2.2
def entT (x : List Int × Addr × Value) : DictEntry := ⟨reduceHash (Builtin.Tuple.tupleHashOf (x.1.map hashInt)), .ref x.2.1, x.2.2⟩
structure DicT0 (h : Heap) (a : Addr) (L : DL3) : Prop where
  len : L.length ≤ sizeLine
  ns : (a == sysModules) = false
  ex : ∃ xs o es ep, DRel L xs ∧ h.get? a = some o ∧ o.ExactDict ∧ o.data = .dict es ep ∧ es.toList = xs.map entT ∧ (xs.map (·.1)).Nodup
def DicTO (a : Addr) (L : DL3) : HO := .ext fun h => DicT0 h a L
theorem dicTO_new {P : Program} {w : World} {H : Hp} {h : Heap} {a : Addr} {L : DL3} (R : DicT0 h a L) : ObjOk P w H h a (DicTO a L) := by
  obtain ⟨xs, o, es, ep, r, ho, q⟩ := R.ex
  refine ⟨R, ⟨o, ho⟩, fun h1 h2 p k => ?_⟩
  obtain ⟨l1, n1, xs', o', es', ep', r', ho', q'⟩ := (p : DicT0 h1 a L)
  exact ⟨l1, n1, xs', o', es', ep', r', k o' ho', q'⟩
theorem DicT0.full {P : Program} {w : World} {h : Heap} {a : Addr} {L : DL3} (R : DicT0 h a L) (ht : ∀ p ∈ L, IsT P w h p.1 p.2.1) : ∃ xs, DRel L xs ∧ h.DictOfH (tupleKind (intKind P w)) a xs := by
  obtain ⟨xs, o, es, ep, r, ho, q1, q2, q3, q4⟩ := R.ex
  refine ⟨xs, r, o, es, ep, ho, q1, q2, q3, ?_, q4⟩
  have all : ∀ {l : DL3} {m : List (List Int × Addr × Value)}, DRel l m → (∀ p ∈ l, IsT P w h p.1 p.2.1) → ∀ x ∈ m, (tupleKind (intKind P w)).is h x.1 x.2.1 := by
    intro l m q
    induction q with
    | nil => intro _ x hx; exact nomatch hx
    | @cons p q ps qs hq t ih =>
      intro hl x hx
      rcases List.mem_cons.mp hx with e | hx
      · subst e
        have z := hl p (List.mem_cons_self ..)
        rw [hq.1, hq.2.1] at z
        exact z
      · exact ih (fun y hy => hl y (List.mem_cons_of_mem _ hy)) x hx
  exact all r ht

/-! ### tables -/
def getT (L : DL3) (k : List Int) : Option V := (L.find? fun p => decide (p.1 = k)).map (·.2.2)
def putT (L : DL3) (k : List Int) (b : Addr) (v : V) : DL3 := if (getT L k).isSome = true then L.map (fun p => if p.1 = k then (p.1, p.2.1, v) else p) else L ++ [(k, b, v)]
theorem DRel.val {L : DL3} {xs : List (List Int × Addr × Value)} (r : DRel L xs) (k : List Int) : RelO (getT L k) ((atKey xs k).map (·.2)) := by
  induction r with
  | nil => exact True.intro
  | @cons p q ps qs h t ih =>
    obtain ⟨h1, _, h2⟩ := h
    by_cases e : p.1 = k
    · have e' : q.1 = k := h1.symm.trans e
      have b : atKey (q :: qs) k = some q.2 := by simp [atKey, List.find?_cons, e']
      have c : getT (p :: ps) k = some p.2.2 := by simp [getT, List.find?_cons, e]
      rw [c, b]; exact h2
    · have e' : ¬ q.1 = k := fun z => e (h1.trans z)
      have b : atKey (q :: qs) k = atKey qs k := by simp [atKey, List.find?_cons, e']
      have c : getT (p :: ps) k = getT ps k := by simp [getT, List.find?_cons, e]
      rw [c, b]; exact ih
theorem DRel.repl {L : DL3} {xs : List (List Int × Addr × Value)} (r : DRel L xs) (k : List Int) {y : V} {u : Value} (ry : RelV y u) :
    DRel (L.map fun p => if p.1 = k then (p.1, p.2.1, y) else p) (xs.map (putAt k u)) := by
  induction r with
  | nil => exact .nil
  | @cons p q ps qs h t ih =>
    rw [List.map_cons, List.map_cons]
    refine .cons ?_ ih
    obtain ⟨h1, h2, h3⟩ := h
    unfold putAt
    by_cases e : p.1 = k
    · rw [if_pos e, if_pos (h1.symm.trans e)]; exact ⟨h1, h2, ry⟩
    · rw [if_neg e, if_neg (fun z => e (h1.trans z))]; exact ⟨h1, h2, h3⟩
theorem DRel.put {L : DL3} {xs : List (List Int × Addr × Value)} (r : DRel L xs) (k : List Int) (b : Addr) {y : V} {u : Value} (ry : RelV y u) : DRel (putT L k b y) (storedH xs k b u) := by
  have e : (getT L k).isSome = (atKey xs k).isSome := by
    rw [(r.val k).isSome_eq, Option.isSome_map]
  unfold putT storedH
  rw [e]
  by_cases q : (atKey xs k).isSome = true
  · rw [if_pos q, if_pos q]; exact r.repl k ry
  · rw [if_neg q, if_neg q]; exact Paired.snoc r ⟨rfl, rfl, ry⟩
theorem length_putT (L : DL3) (k : List Int) (b : Addr) (v : V) : (putT L k b v).length ≤ L.length + 1 := by
  unfold putT
  split
  · rw [List.length_map]; omega
  · rw [List.length_append, List.length_cons, List.length_nil]; omega
theorem keys_putT {L : DL3} {k : List Int} {b : Addr} {v : V} {p : List Int × Addr × V} (h : p ∈ putT L k b v) : (p.1 = k ∧ p.2.1 = b) ∨ ∃ q ∈ L, p.1 = q.1 ∧ p.2.1 = q.2.1 := by
  unfold putT at h
  split at h
  · obtain ⟨q, hq, e⟩ := List.mem_map.mp h
    refine .inr ⟨q, hq, ?_⟩
    by_cases z : q.1 = k
    · rw [if_pos z] at e; subst e; exact ⟨rfl, rfl⟩
    · rw [if_neg z] at e; subst e; exact ⟨rfl, rfl⟩
  · rcases List.mem_append.mp h with h | h
    · exact .inr ⟨p, h, rfl, rfl⟩
    · rw [List.mem_singleton.mp h]; exact .inl ⟨rfl, rfl⟩

/-! ### the operators -/
section
variable {X : Cx}
/-- a dict at a, its table, its keys -/
def IsDT (X : Cx) (H : Hp) (a : Addr) (L : DL3) : Prop := H a = some (DicTO a L) ∧ ∀ p ∈ L, SqT X.K H p.2.1 (p.1.map V.int)
variable {pins : List (Addr × Obj)} {σ : St} {H : Hp} {s : Shared} {a b : Addr} {k : List Int} {L : DL3} {y v : V} {u r : Value} {A : Around} {E : Value → Shared → Prop}
theorem Inv.dicT (I : Inv X pins σ H s) (d : IsDT X H a L) : L.length ≤ sizeLine ∧ (a == sysModules) = false ∧ ∃ xs, DRel L xs ∧ s.heap.DictOfH (tupleKind (intKind X.prog X.w)) a xs := by
  have R : DicT0 s.heap a L := (I.hok a _ d.1).1
  exact ⟨R.len, R.ns, R.full fun p hp => I.isT (d.2 p hp)⟩
theorem dT_getItem {Q : Value → Shared → Prop} (hu : A.units + 1 < cLine) (I : Inv X pins σ H s) (d : IsDT X H a L) (hb : SqT X.K H b (k.map V.int)) (g : getT L k = some v) (h : ∀ w' s', Inv X pins σ H s' → RelV v w' → Q w' s') :
    wpAny (model X.prog X.w) A (getItem (.ref a) (.ref b)) Q E s := by
  obtain ⟨_, hd, xs, rel, dd⟩ := I.dicT d
  obtain ⟨w', hw, rw'⟩ := RelO.some_of (v := v) (o := (atKey xs k).map (·.2)) (by rw [← g]; exact rel.val k)
  obtain ⟨p, hp, hp2⟩ := Option.map_eq_some_iff.mp hw
  refine wpAny_getItem_heap (tupleKind_room_in1 hu) (I.isT hb) dd hp ?_
  rw [hp2]
  exact h w' _ (I.tok _) rw'
theorem dT_in {Q : Value → Shared → Prop} (hu : A.units + 1 < cLine) (I : Inv X pins σ H s) (d : IsDT X H a L) (hb : SqT X.K H b (k.map V.int)) (h : ∀ s', Inv X pins σ H s' → Q (.bool (getT L k).isSome) s') :
    wpAny (model X.prog X.w) A (compareOp .In (.ref b) (.ref a)) Q E s := by
  obtain ⟨_, hd, xs, rel, dd⟩ := I.dicT d
  refine wpAny_in_heap (tupleKind_room_in1 hu) (I.isT hb) hd dd ?_
  have q := (rel.val k).isSome_eq
  rw [Option.isSome_map] at q
  rw [← q]
  exact h _ (I.tok _)
theorem dT_notIn {Q : Value → Shared → Prop} (hu : A.units + 1 < cLine) (I : Inv X pins σ H s) (d : IsDT X H a L) (hb : SqT X.K H b (k.map V.int)) (h : ∀ s', Inv X pins σ H s' → Q (.bool (!(getT L k).isSome)) s') :
    wpAny (model X.prog X.w) A (compareOp .NotIn (.ref b) (.ref a)) Q E s := by
  obtain ⟨_, hd, xs, rel, dd⟩ := I.dicT d
  refine wpAny_notIn_heap (tupleKind_room_in1 hu) (I.isT hb) hd dd ?_
  have q := (rel.val k).isSome_eq
  rw [Option.isSome_map] at q
  rw [← q]
  exact h _ (I.tok _)
theorem dT_setItem {Q : Unit → Shared → Prop} (hu : A.units + 1 < cLine) (I : Inv X pins σ H s) (d : IsDT X H a L) (hb : SqT X.K H b (k.map V.int)) (hl : L.length < sizeLine) (rv : RelV v r)
    (h : ∀ s', Inv X pins σ (upd H a (DicTO a (putT L k b v))) s' → Q () s') : wpAny (model X.prog X.w) A (setItem (.ref a) (.ref b) r) Q E s := by
  obtain ⟨z, hd, xs, rel, dd⟩ := I.dicT d
  have hz : xs.length ≤ sizeLine := by rw [← Paired.length rel]; exact z
  refine wpAny_setItem_heap (hsz := hz) (tupleKind_room_in1 hu) (I.isT hb) dd fun h' dd' hs => h _ ?_
  obtain ⟨q, es, ep, hq, h2, h3, h4, _, h5⟩ := dd'
  refine d_write I (by rw [d.1]; exact True.intro) hs ⟨q, hq⟩ (dicTO_new ⟨?_, hd, _, q, es, ep, rel.put k b rv, hq, h2, h3, h4, h5⟩)
  have := length_putT L k b v; omega
/-- {}, to be a dict of this kind -/
def tDNewTO : TE := fun _ H Q => ∀ p, H p = none → Q (.ref p) (upd H p (DicTO p []))
theorem dicT0_empty (h : Heap) (hb : sysModules < h.objs.size) : DicT0 (h.push { cls := .type "dict", data := .dict #[] }) h.objs.size [] :=
  ⟨Nat.zero_le _, beq_eq_false_iff_ne.mpr (Ne.symm (Nat.ne_of_lt hb)), [], _, #[], 0, .nil, Heap.get?_push_size _ rfl, ⟨rfl, rfl, rfl⟩, rfl, rfl, List.nodup_nil⟩
theorem pe_dnewTO {pos : Pos} : PE X (.Dict [] [] pos) tDNewTO := ⟨fun pins s σ H Q I h =>
  wpAny_Dict_empty ⟨.ref s.heap.objs.size, _, I.laid (a := s.heap.objs.size) (o := DicTO s.heap.objs.size []) (t' := s.toks) (fun _ _ q => Heap.get?_push_of_some _ q) (Nat.le_refl _) (dicTO_new (dicT0_empty s.heap I.big)), rfl, h _ (I.hok.fresh (Nat.le_refl _))⟩⟩
/-- d[k] -/
def tDGetT (X : Cx) (td ty : TE) : TE := fun σ H Q => td σ H fun x H1 => ty σ H1 fun y H2 => ∃ a b k L v, x = .ref a ∧ y = .ref b ∧ IsDT X H2 a L ∧ SqT X.K H2 b (k.map V.int) ∧ getT L k = some v ∧ Q v H2
theorem dT_typeIs (I : Inv X pins σ H s) (d : IsDT X H a L) : s.TypeIs (.ref a) "dict" := by
  obtain ⟨_, _, xs, _, dd⟩ := I.dicT d
  exact dd.typeIs
theorem pe_dgetT {o i : Expr} {pos : Pos} {td ty : TE} (hu : X.A.units + 1 < cLine) (ho : PE X o td) (hi : PE X i ty) (hs : NoSl i) : PE X (.Subscript o i pos) (tDGetT X td ty) := by
  refine ⟨fun pins s σ H Q I h => ?_⟩
  refine subD_of PySem.F.slot_dict_getitem.lookup hs (thn (ho.run pins s σ H _ I h) fun u s1 ⟨x, H1, I1, rx, q1⟩ => thn (hi.run pins s1 σ H1 _ I1 q1) fun iv s2 ⟨y, H2, I2, ry, a, b, k, L, v, ex, ey, d, hb, g, q2⟩ => ?_)
  subst ex ey
  obtain rfl : u = Value.ref a := rx
  obtain rfl : iv = Value.ref b := ry
  exact ⟨dT_typeIs I2 d, dT_getItem hu I2 d hb g fun w' s3 I3 rw' => ⟨v, H2, I3, rw', q2⟩⟩
/-- k in d, k not in d -/
def rInDT (X : Cx) (neg : Bool) : R2 := fun y x H Q => ∃ (a b : Addr) (k : List Int) (L : DL3), y = .ref b ∧ x = .ref a ∧ IsDT X H a L ∧ SqT X.K H b (k.map V.int) ∧ Q (.bl (if neg then !(getT L k).isSome else (getT L k).isSome)) H
theorem op_inDT (hu : X.A.units + 1 < cLine) : OpR X (compareOp .In) (rInDT X false) := by
  intro pins s σ H x y v u Q I rx ry h
  obtain ⟨a, b, k, L, rfl, rfl, d, hb, q⟩ := h
  cases rx
  cases ry
  exact dT_in hu I d hb fun s' I' => ⟨.bl _, H, I', rfl, q⟩
theorem op_notInDT (hu : X.A.units + 1 < cLine) : OpR X (compareOp .NotIn) (rInDT X true) := by
  intro pins s σ H x y v u Q I rx ry h
  obtain ⟨a, b, k, L, rfl, rfl, d, hb, q⟩ := h
  cases rx
  cases ry
  exact dT_notIn hu I d hb fun s' I' => ⟨.bl _, H, I', rfl, q⟩
/-- d[k] = v -/
def sDPutT (X : Cx) (td ty tv : TE) : TS := fun D σ H => tv σ H fun v H1 => td σ H1 fun x H2 => ty σ H2 fun y H3 => ∃ a b k L, x = .ref a ∧ y = .ref b ∧ IsDT X H3 a L ∧ SqT X.K H3 b (k.map V.int) ∧ L.length < sizeLine ∧ D.nx σ (upd H3 a (DicTO a (putT L k b v)))
theorem ps_dputT {o i value : Expr} {pos pos' : Pos} {td ty tv : TE} (hu : X.A.units + 1 < cLine) (ho : PE X o td) (hi : PE X i ty) (hv : PE X value tv) (hs : swapsWith value (some (.Subscript o i pos')) pos.line X.env = pure false) :
    PS X (.Assign [.Subscript o i pos'] value pos) (sDPutT X td ty tv) := by
  refine ⟨fun pins s σ H D I h => ?_⟩
  refine wpAny_Assign_Subscript (thn (hv.run pins s σ H _ I h) fun r s1 ⟨v, H1, I1, rv, q1⟩ => thn (ho.run pins s1 σ H1 _ I1 q1) fun u s2 ⟨x, H2, I2, rx, q2⟩ => thn (hi.run pins s2 σ H2 _ I2 q2) fun iv s3 ⟨y, H3, I3, ry, a, b, k, L, ex, ey, d, hb, hl, q3⟩ => ?_) hs
  subst ex ey
  obtain rfl : u = Value.ref a := rx
  obtain rfl : iv = Value.ref b := ry
  exact dT_setItem hu I3 d hb hl rv fun s4 I4 => ⟨σ, _, I4, q3⟩
end
/-! ### dict(pairs) -/
def mergeT (L kvs : DL3) : DL3 := kvs.foldl (fun acc p => putT acc p.1 p.2.1 p.2.2) L
theorem DRel.merge : ∀ {kvs : DL3} {rs : List (List Int × Addr × Value)} {L : DL3} {xs : List (List Int × Addr × Value)}, DRel kvs rs → DRel L xs → DRel (mergeT L kvs) (storedAllH xs rs)
  | _, _, _, _, .nil, r => r
  | _, _, L, xs, .cons (a := p) (b := q) h t, r => by
    have z := DRel.put r p.1 p.2.1 h.2.2
    have e : storedH xs q.1 q.2.1 q.2.2 = storedH xs p.1 p.2.1 q.2.2 := by rw [h.1, h.2.1]
    exact DRel.merge (L := putT L p.1 p.2.1 p.2.2) (xs := storedH xs q.1 q.2.1 q.2.2) t (by rw [e]; exact z)
theorem length_mergeT : ∀ (kvs L : DL3), (mergeT L kvs).length ≤ L.length + kvs.length
  | [], L => Nat.le_refl _
  | p :: kvs, L => by
    have h1 := length_mergeT kvs (putT L p.1 p.2.1 p.2.2)
    have h2 := length_putT L p.1 p.2.1 p.2.2
    have e : mergeT L (p :: kvs) = mergeT (putT L p.1 p.2.1 p.2.2) kvs := rfl
    rw [e, List.length_cons]; omega
theorem keys_mergeT : ∀ {kvs L : DL3} {p : List Int × Addr × V}, p ∈ mergeT L kvs → (∃ q ∈ L, p.1 = q.1 ∧ p.2.1 = q.2.1) ∨ ∃ q ∈ kvs, p.1 = q.1 ∧ p.2.1 = q.2.1
  | [], L, p, h => .inl ⟨p, h, rfl, rfl⟩
  | x :: kvs, L, p, h => by
    rcases keys_mergeT (kvs := kvs) (L := putT L x.1 x.2.1 x.2.2) h with ⟨q, hq, e1, e2⟩ | ⟨q, hq, e⟩
    · rcases keys_putT hq with ⟨z1, z2⟩ | ⟨q', hq', z1, z2⟩
      · exact .inr ⟨x, List.mem_cons_self .., e1.trans z1, e2.trans z2⟩
      · exact .inl ⟨q', hq', e1.trans z1, e2.trans z2⟩
    · exact .inr ⟨q, List.mem_cons_of_mem _ hq, e⟩
section
variable {X : Cx}
theorem pairsT_of {pins : List (Addr × Obj)} {σ : St} {H : Hp} {s : Shared} (I : Inv X pins σ H s) : ∀ {ps : List Addr} {kvs : DL3}, Paired (fun p kv => SqT X.K H p [.ref kv.2.1, kv.2.2]) ps kvs →
    ∃ rs : List (List Int × Addr × Value), DRel kvs rs ∧ rs.length = ps.length ∧ ∀ (j : Nat) (q : List Int × Addr × Value), rs[j]? = some q → ∃ b : Addr, ps[j]? = some b ∧ IsTup s.heap b #[.ref q.2.1, q.2.2]
  | _, _, .nil => ⟨[], .nil, rfl, fun j q e => by simp at e⟩
  | _, _, .cons (a := p) (b := kv) h t => by
    obtain ⟨rs, r, hl, hp⟩ := pairsT_of I t
    obtain ⟨its, rv, ht, _⟩ := I.tuple h
    obtain ⟨u, y, ei, ru, ry⟩ := vals2 rv
    subst ei
    obtain rfl : u = Value.ref kv.2.1 := ru
    refine ⟨(kv.1, kv.2.1, y) :: rs, .cons ⟨rfl, rfl, ry⟩ r, by rw [List.length_cons, List.length_cons, hl], fun j q e => ?_⟩
    cases j with
    | zero =>
      have e' : (kv.1, kv.2.1, y) = q := Option.some.inj e
      subst e'
      exact ⟨p, rfl, ht⟩
    | succ j =>
      obtain ⟨b, e1, e2⟩ := hp j q (by simpa using e)
      exact ⟨b, by simpa using e1, e2⟩
/-- dict(xs), xs a list of pairs (tuple of ints, value) -/
def rDictT (X : Cx) : List V → Hp → VK → Prop := fun xs H Q => ∃ (a : Addr) (ps : List Addr) (kvs : DL3), xs = [.ref a] ∧ SqL X.K H a (ps.map V.ref) ∧ Paired (fun p kv => SqT X.K H p [.ref kv.2.1, kv.2.2]) ps kvs ∧ (∀ kv ∈ kvs, SqT X.K H kv.2.1 (kv.1.map V.int)) ∧
    ∀ p, H p = none → Q (.ref p) (upd H p (DicTO p (mergeT [] kvs)))
theorem cr_dictT (hcalm : X.calm = true) (hu : X.A.units + 2 < cLine) : CallR X (.type "dict") (rDictT X) := by
  intro pins s σ H xs us Q I r q
  obtain ⟨a, ps, kvs, ex, hq, hp, hk, q⟩ := q
  subst ex
  obtain ⟨u, eu, rx⟩ := vals1 r
  subst eu
  cases rx
  obtain ⟨its, rv, pl, hz⟩ := I.list hq
  have ei := refs_at rv
  subst ei
  rw [List.length_map] at hz
  obtain ⟨rs, rel, hl, hpr⟩ := pairsT_of I hp
  have hpl : PySem.PlainSeq "list" s.heap a (ps.map Value.ref).toArray := pl
  have key : ∀ x ∈ rs, (tupleKind (intKind X.prog X.w)).is s.heap x.1 x.2.1 := by
    have all : ∀ {l : DL3} {m : List (List Int × Addr × Value)}, DRel l m → (∀ p ∈ l, IsT X.prog X.w s.heap p.1 p.2.1) → ∀ x ∈ m, (tupleKind (intKind X.prog X.w)).is s.heap x.1 x.2.1 := by
      intro l m q
      induction q with
      | nil => intro _ x hx; exact nomatch hx
      | @cons p q ps qs hq t ih =>
        intro hl x hx
        rcases List.mem_cons.mp hx with e | hx
        · subst e
          have z := hl p (List.mem_cons_self ..)
          rw [hq.1, hq.2.1] at z
          exact z
        · exact ih (fun y hy => hl y (List.mem_cons_of_mem _ hy)) x hx
    exact all rel fun p hp => I.isT (hk p hp)
  refine call_dict_pairsH (knd := tupleKind (intKind X.prog X.w)) (ps := rs) (PySem.PairArg.list a (ps.map Value.ref).toArray (fun j => ps.getD j 0) (rs.map fun q => (Value.ref q.2.1, q.2.2))) (I.ok.hd hcalm) hu ⟨hpl, ?_, ?_⟩ ⟨by simp, ?_⟩ ?_ (by rw [List.length_map, hl]; exact hz) fun h' tk hd' k => ?_
  · simp [hl]
  · intro j kk v e
    rw [List.getElem?_map] at e
    obtain ⟨q', e1, e2⟩ := Option.map_eq_some_iff.mp e
    obtain ⟨b, eb, hb⟩ := hpr j q' e1
    injection e2 with e2 e3
    subst e2 e3
    refine ⟨by simp [eb], .inl ?_⟩
    have z : ps.getD j 0 = b := by simp [eb]
    show s.heap.IsTuple (ps.getD j 0) _
    rw [z]; exact hb
  · intro j kk v e
    have e : (rs.map fun q => (Value.ref q.2.1, q.2.2))[j]? = some (kk, v) := e
    rw [List.getElem?_map] at e
    obtain ⟨q', e1, e2⟩ := Option.map_eq_some_iff.mp e
    injection e2 with e2 e3
    subst e2 e3
    exact ⟨q'.1, q'.2.1, e1, rfl⟩
  · intro h' hh x hx
    obtain ⟨o, items, n, ho, r'⟩ := key x hx
    exact ⟨o, items, n, hh _ _ (Nat.ne_of_lt (Heap.lt_size ho)) (by simp) ho, r'⟩
  · have hm : (s.heap.objs.size == sysModules) = false := beq_eq_false_iff_ne.mpr (Nat.ne_of_gt I.big)
    have hlen : (mergeT [] kvs).length ≤ sizeLine := by
      refine Nat.le_trans (length_mergeT kvs []) ?_
      rw [List.length_nil, Nat.zero_add, rel.length, hl]
      exact hz
    obtain ⟨o, es, ep, h1, h2, h3, h4, _, h5⟩ := hd'
    exact ⟨.ref s.heap.objs.size, upd H s.heap.objs.size (DicTO s.heap.objs.size (mergeT [] kvs)), I.laid (t' := tk) (fun b o e => k b o (by simp) e) (Nat.le_refl _) (dicTO_new ⟨hlen, hm, storedAllH [] rs, o, es, ep, DRel.merge rel .nil, h1, h2, h3, h4, h5⟩), rfl, q _ (I.hok.fresh (Nat.le_refl _))⟩
end

/-! ### isinstance -/
inductive TyY (K : PySem.W.Frag) (H : Hp) : V → Value → Prop where
  | x {v : V} {t : Value} (h : TyX K H v t) : TyY K H v t
  | d {a : Addr} {L : DL3} (h : H a = some (DicTO a L)) : TyY K H (.ref a) (.type "dict")
section
variable {X : Cx}
theorem kit_ofY {pins : List (Addr × Obj)} {σ : St} {H : Hp} {s : Shared} {x : V} {u t : Value} (I : Inv X pins σ H s) (rx : RelV x u) (ty : TyY X.K H x t) : ∃ P : Heap → Prop, PySem.W.KitX X.K u t P ∧ P s.heap ∧ u ≠ .builtin "__main__.__loader__#opaque" := by
  cases ty with
  | x h => exact kit_of I rx h
  | @d a L ea =>
    cases (show u = Value.ref a from rx)
    have R : DicT0 s.heap a L := (I.hok a _ ea).1
    obtain ⟨xs, o, es, ep, _, h1, h2, _⟩ := R.ex
    exact ⟨_, PySem.W.kitx_dict, ⟨o, h1, h2.1⟩, fun z => nomatch z⟩
def rIsiY (K : PySem.W.Frag) : List V → Hp → VK → Prop := fun xs H Q => ∃ (x c : V) (t u : Value) (b : Bool), xs = [x, c] ∧ ClsV c u ∧ TyY K H x t ∧ PySem.W.kitOne K t u = some b ∧ Q (.bl b) H
def rIsiTY (K : PySem.W.Frag) : List V → Hp → VK → Prop := fun xs H Q => ∃ (x : V) (tp : Addr) (cs : List V) (t : Value) (us : List Value) (b : Bool), xs = [x, .ref tp] ∧ H tp = some (.tup cs) ∧ Paired ClsV cs us ∧ TyY K H x t ∧ PySem.W.kitAny K t us = some b ∧ Q (.bl b) H
theorem call_isiY : CallR X (.builtin "isinstance") (rIsiY X.K) := by
  intro pins s σ H xs us Q I r h
  obtain ⟨x, c, t, u, b, rfl, k, ty, e, q⟩ := h
  obtain ⟨u1, u2, rfl, r1, r2⟩ := vals2 r
  have e2 := k.eq r2
  subst e2
  obtain ⟨P, Z, p, hx⟩ := kit_ofY I r1 ty
  exact PySem.W.kia_one Z I.kIn p e hx fun tk => ⟨.bl b, H, I.tok tk, rfl, q⟩
theorem call_isiTY : CallR X (.builtin "isinstance") (rIsiTY X.K) := by
  intro pins s σ H xs us Q I r h
  obtain ⟨x, tp, cs, t, ws, b, rfl, hT, k, ty, e, q⟩ := h
  obtain ⟨u1, u2, rfl, r1, r2⟩ := vals2 r
  cases (show u2 = Value.ref tp from r2)
  obtain ⟨P, Z, p, hx⟩ := kit_ofY I r1 ty
  obtain ⟨_, its, rv, o, h1, h2, n, h3⟩ := (show ObjOk X.prog X.w H s.heap tp (.tup cs) from I.hok tp _ hT)
  have e3 := ClsV.all k rv
  subst e3
  obtain ⟨oc, od, dt, sl⟩ := o
  simp only at h2 h3
  subst h2 h3
  exact PySem.W.kia_tup Z I.kIn p h1 e hx fun tk => ⟨.bl b, H, I.tok tk, rfl, q⟩
end
end L2


/-! A layer of data over the hand layer: what expressions give is told as PyData, names hold data; the heap is out of sight. -/
namespace DL
open PySem PySem.Spec PyProof.Rows L2

mutual
/-- v stands for the data d by the objects of F, that never change -/
inductive DV (K : PySem.W.Frag) (F : Hp) : V → PyData → Prop
  | non : DV K F .non .none
  | bl (b : Bool) : DV K F (.bl b) (.bool b)
  | int (i : Int) : DV K F (.int i) (.int i)
  | str (x : Str) : DV K F (.str x) (.str x)
  | lst {a : Addr} {xs : List V} {ds : List PyData} : SqL K F a xs → DVs K F xs ds → DV K F (.ref a) (.list ds)
  | tup {a : Addr} {xs : List V} {ds : List PyData} : SqT K F a xs → DVs K F xs ds → DV K F (.ref a) (.tuple ds)
  | dct {a : Addr} : F a = some (.dK []) → DV K F (.ref a) (.dict [])
  | dcT {a : Addr} {L : DL3} {ds : List PyData} {kvs : List (PyData × PyData)} : F a = some (DicTO a L) → (∀ p ∈ L, SqT K F p.2.1 (p.1.map V.int)) → DVs K F (L.map fun p => p.2.2) ds → kvs = (L.map fun p => PyData.tuple (p.1.map PyData.int)).zip ds → DV K F (.ref a) (.dict kvs)
inductive DVs (K : PySem.W.Frag) (F : Hp) : List V → List PyData → Prop
  | nil : DVs K F [] []
  | cons {v : V} {vs : List V} {d : PyData} {ds : List PyData} : DV K F v d → DVs K F vs ds → DVs K F (v :: vs) (d :: ds)
end

theorem sql_same {K : PySem.W.Frag} {H H' : Hp} {a : Addr} {xs : List V} (e : Same H H') (h : SqL K H a xs) : SqL K H' a xs := by
  rcases h with (h | ⟨o, h⟩) | h
  · exact .inl (.inl (e _ _ h))
  · exact .inl (.inr ⟨o, e _ _ h⟩)
  · exact .inr h
theorem sqt_same {K : PySem.W.Frag} {H H' : Hp} {a : Addr} {xs : List V} (e : Same H H') (h : SqT K H a xs) : SqT K H' a xs := by
  rcases h with (h | ⟨o, h⟩) | h
  · exact .inl (.inl (e _ _ h))
  · exact .inl (.inr ⟨o, e _ _ h⟩)
  · exact .inr h

section
variable {K : PySem.W.Frag} {F F' : Hp}
mutual
theorem DV.mono (e : Same F F') : ∀ {v : V} {d : PyData}, DV K F v d → DV K F' v d
  | _, _, .non => .non
  | _, _, .bl b => .bl b
  | _, _, .int i => .int i
  | _, _, .str x => .str x
  | _, _, .lst h r => .lst (sql_same e h) (DVs.mono e r)
  | _, _, .tup h r => .tup (sqt_same e h) (DVs.mono e r)
  | _, _, .dct h => .dct (e _ _ h)
  | _, _, .dcT h k r z => .dcT (e _ _ h) (fun p hp => sqt_same e (k p hp)) (DVs.mono e r) z
theorem DVs.mono (e : Same F F') : ∀ {vs : List V} {ds : List PyData}, DVs K F vs ds → DVs K F' vs ds
  | _, _, .nil => .nil
  | _, _, .cons h r => .cons (DV.mono e h) (DVs.mono e r)
end
mutual
theorem DV.dp : ∀ {v : V} {d : PyData}, DV K F v d → d.hasDict = false → Dp K F v d
  | _, _, .non, _ => .non
  | _, _, .bl b, _ => .bl b
  | _, _, .int i, _ => .int i
  | _, _, .str x, _ => .str x
  | _, _, .lst h r, n => .lst h (DVs.dp r (by simpa only [PyData.hasDict] using n))
  | _, _, .tup h r, n => .tup h (DVs.dp r (by simpa only [PyData.hasDict] using n))
  | _, _, .dct h, n => by simp [PyData.hasDict] at n
  | _, _, .dcT h k r z, n => by simp [PyData.hasDict] at n
theorem DVs.dp : ∀ {vs : List V} {ds : List PyData}, DVs K F vs ds → PyData.hasDictAll ds = false → DpAll K F vs ds
  | _, _, .nil, _ => .nil
  | _, _, .cons h r, n => by
    simp only [PyData.hasDictAll, Bool.or_eq_false_iff] at n
    exact .cons (DV.dp h n.1) (DVs.dp r n.2)
end
theorem DVs.length : ∀ {vs : List V} {ds : List PyData}, DVs K F vs ds → vs.length = ds.length
  | _, _, .nil => rfl
  | _, _, .cons _ r => by simp [DVs.length r]
theorem DVs.append : ∀ {vs ws : List V} {ds es : List PyData}, DVs K F vs ds → DVs K F ws es → DVs K F (vs ++ ws) (ds ++ es)
  | _, _, _, _, .nil, r => r
  | _, _, _, _, .cons h t, r => .cons h (DVs.append t r)
theorem DVs.get : ∀ {vs : List V} {ds : List PyData} {i : Nat} {d : PyData}, DVs K F vs ds → ds[i]? = some d → ∃ v, vs[i]? = some v ∧ DV K F v d
  | _, _, _, _, .nil, e => by simp at e
  | _, _, 0, _, .cons h _, e => by simp at e; subst e; exact ⟨_, rfl, h⟩
  | _, _, i + 1, d, .cons _ t, e => by
    obtain ⟨v, h1, h2⟩ := DVs.get (i := i) (d := d) t (by simpa using e)
    exact ⟨v, by simpa using h1, h2⟩
theorem DVs.get' : ∀ {vs : List V} {ds : List PyData} {i : Nat} {v : V}, DVs K F vs ds → vs[i]? = some v → ∃ d, ds[i]? = some d ∧ DV K F v d
  | _, _, _, _, .nil, e => by simp at e
  | _, _, 0, _, .cons h _, e => by simp at e; subst e; exact ⟨_, rfl, h⟩
  | _, _, i + 1, d, .cons _ t, e => by
    obtain ⟨v, h1, h2⟩ := DVs.get' (i := i) (v := d) t (by simpa using e)
    exact ⟨v, by simpa using h1, h2⟩
theorem DVs.set {v : V} {d : PyData} (r : DV K F v d) : ∀ {vs : List V} {ds : List PyData} (i : Nat), DVs K F vs ds → DVs K F (vs.set i v) (ds.set i d)
  | _, _, _, .nil => .nil
  | _, _, 0, .cons _ t => .cons r t
  | _, _, i + 1, .cons q t => .cons q (DVs.set r i t)
theorem DVs.take : ∀ {vs : List V} {ds : List PyData} (n : Nat), DVs K F vs ds → DVs K F (vs.take n) (ds.take n)
  | _, _, 0, _ => .nil
  | _, _, _ + 1, .nil => .nil
  | _, _, n + 1, .cons r t => .cons r (DVs.take n t)
theorem DVs.drop : ∀ {vs : List V} {ds : List PyData} (n : Nat), DVs K F vs ds → DVs K F (vs.drop n) (ds.drop n)
  | _, _, 0, r => r
  | _, _, _ + 1, .nil => .nil
  | _, _, n + 1, .cons _ t => DVs.drop n t
theorem DVs.reverse {vs : List V} {ds : List PyData} (h : DVs K F vs ds) : DVs K F vs.reverse ds.reverse := by
  induction ds generalizing vs with
  | nil => cases h; exact .nil
  | cons d ds ih =>
    cases h with
    | cons h1 h2 =>
      rw [List.reverse_cons, List.reverse_cons]
      exact (ih h2).append (.cons h1 .nil)
theorem DVs.ints : ∀ {vs : List V} {ns : List Int}, DVs K F vs (ns.map PyData.int) → vs = ns.map V.int
  | _, [], .nil => rfl
  | _, n :: ns, .cons h t => by cases h; rw [DVs.ints t]; rfl
theorem DVs.bools : ∀ {vs : List V} {bs : List Bool}, DVs K F vs (bs.map PyData.bool) → vs = bs.map V.bl
  | _, [], .nil => rfl
  | _, n :: ns, .cons h t => by cases h; rw [DVs.bools t]; rfl
theorem DVs.of_ints : ∀ (ns : List Int), DVs K F (ns.map V.int) (ns.map PyData.int)
  | [] => .nil
  | n :: ns => .cons (.int n) (DVs.of_ints ns)
end

/-- the two numbers of a pot -/
def PotAt (H : Hp) (q : Addr) : Prop := ∃ a b : Int, H q = some (.lst [.int a, .int b]) ∧ 0 ≤ a ∧ 0 ≤ b ∧ b < 4294967296

/-- F is part of H; the pot stands apart -/
structure Fit (p : Option Addr) (F H : Hp) : Prop where
  sub : Same F H
  pot : ∀ q, p = some q → F q = none ∧ PotAt H q
/-- more came; what stood stands; of the old objects none came into F -/
structure Ext (p : Option Addr) (F H F' H' : Hp) : Prop where
  ff : Same F F'
  fh : Same F' H'
  hh : ∀ b o, p ≠ some b → H b = some o → H' b = some o
  fr : ∀ b o, H b = some o → F b = none → F' b = none
  pt : ∀ q, p = some q → PotAt H q → PotAt H' q

section
variable {p : Option Addr} {F H F' H' F2 H2 : Hp}
theorem Ext.refl (h : Same F H) : Ext p F H F H := ⟨Same.refl _, h, fun _ _ _ e => e, fun _ _ _ e => e, fun _ _ e => e⟩
theorem Ext.trans (a : Ext p F H F' H') (f : Fit p F H) (b : Ext p F' H' F2 H2) : Ext p F H F2 H2 := by
  refine ⟨a.ff.trans b.ff, b.fh, fun c o n e => b.hh c o n (a.hh c o n e), fun c o e n => ?_, fun q e h => b.pt q e (a.pt q e h)⟩
  by_cases hp : p = some c
  · obtain ⟨x, y, e2, _⟩ := a.pt c hp (f.pot c hp).2
    exact b.fr c _ e2 (a.fr c o e n)
  · exact b.fr c o (a.hh c o hp e) (a.fr c o e n)
theorem Ext.fit (a : Ext p F H F' H') (f : Fit p F H) : Fit p F' H' :=
  ⟨a.fh, fun q e => ⟨by obtain ⟨n, x, y, e2, _⟩ := f.pot q e; exact a.fr q _ e2 n, a.pt q e (f.pot q e).2⟩⟩
theorem Fit.ne (f : Fit p F H) {a : Addr} (h : H a = none) : p ≠ some a := fun e => by
  obtain ⟨_, x, y, e2, _⟩ := f.pot a e
  rw [h] at e2; cases e2
theorem Fit.none (f : Fit p F H) {a : Addr} (h : H a = none) : F a = none := f.sub.free h
theorem same_upd {a : Addr} {o : HO} (h : F a = none) : Same F (upd F a o) := fun b u e => by rw [upd_ne (ne_of_none e h)]; exact e
/-- a new object, at rest -/
theorem Ext.new (f : Fit p F H) {a : Addr} {o : HO} (h : H a = none) : Ext p F H (upd F a o) (upd H a o) := by
  refine ⟨same_upd (f.none h), fun b u e => ?_, fun b u _ e => ?_, fun b u e n => ?_, fun q e hq => ?_⟩
  · by_cases hb : b = a
    · subst hb; rw [upd_same] at e ⊢; exact e
    · rw [upd_ne hb] at e ⊢; exact f.sub _ _ e
  · rw [upd_ne (ne_of_none e h)]; exact e
  · rw [upd_ne (ne_of_none e h)]; exact n
  · obtain ⟨x, y, e2, r⟩ := hq
    exact ⟨x, y, by rw [upd_ne (ne_of_none e2 h)]; exact e2, r⟩
/-- a new object beside F -/
theorem Ext.junk (f : Fit p F H) {a : Addr} {o : HO} (h : H a = none) : Ext p F H F (upd H a o) := by
  refine ⟨Same.refl _, fun b u e => ?_, fun b u _ e => ?_, fun b u e n => n, fun q e hq => ?_⟩
  · rw [upd_ne (ne_of_none (f.sub _ _ e) h)]; exact f.sub _ _ e
  · rw [upd_ne (ne_of_none e h)]; exact e
  · obtain ⟨x, y, e2, r⟩ := hq
    exact ⟨x, y, by rw [upd_ne (ne_of_none e2 h)]; exact e2, r⟩
/-- an object beside F comes to rest -/
theorem Ext.rest {a : Addr} {o : HO} (x : Ext p F H F' H') (h0 : H a = none) (e : H' a = some o) (n : F' a = none) : Ext p F H (upd F' a o) H' := by
  refine ⟨x.ff.trans (same_upd n), fun b u z => ?_, x.hh, fun b u e2 n2 => ?_, x.pt⟩
  · by_cases hb : b = a
    · subst hb; rw [upd_same] at z; rw [e]; exact z
    · rw [upd_ne hb] at z; exact x.fh _ _ z
  · rw [upd_ne (ne_of_none e2 h0)]; exact x.fr b u e2 n2
end

/-- the written part, the program, the world -/
structure Kw where
  K : PySem.W.Frag
  P : Program
  w : World
abbrev kw (X : Cx) : Kw := ⟨X.K, X.prog, X.w⟩

/-- what is known of a name: nothing; data at rest; an own list of data, that may be changed; the pot; a set of tuples of ints -/
inductive Sl where
  | emp
  | dat (d : PyData)
  | own (ds : List PyData)
  | pot
  | sett (S : List Int → Prop)
  | dic (kds : List (List Int × PyData))
  | tmp (its : List (Bool × PyData))
  | rdic (kds : List (List Int × PyData))
  | mdic (a : Addr) (kds : List (List Int × PyData))
  | fact (φ : Option V → Hp → Prop)

/-- the items of a list of own lists and data; their addresses -/
inductive NIs (k : Kw) (p : Option Addr) (H0 F H : Hp) : List V → List (Bool × PyData) → List Addr → Prop
  | nil : NIs k p H0 F H [] [] []
  | dat {v : V} {d : PyData} {vs : List V} {its : List (Bool × PyData)} {as : List Addr} : DV k.K F v d → NIs k p H0 F H vs its as → NIs k p H0 F H (v :: vs) ((false, d) :: its) as
  | own {a : Addr} {ws : List V} {ds : List PyData} {vs : List V} {its : List (Bool × PyData)} {as : List Addr} : (H0 a = none ∧ F a = none ∧ p ≠ some a ∧ H a = some (.lst ws)) → DVs k.K F ws ds → NIs k p H0 F H vs its as → NIs k p H0 F H (.ref a :: vs) ((true, .list ds) :: its) (a :: as)

def SlOk (k : Kw) (p : Option Addr) (H0 F H : Hp) (v : Option V) : Sl → Prop
  | .emp => True
  | .dat d => ∃ x, v = some x ∧ DV k.K F x d
  | .own ds => ∃ a vs, v = some (.ref a) ∧ H0 a = none ∧ F a = none ∧ p ≠ some a ∧ H a = some (.lst vs) ∧ DVs k.K F vs ds
  | .pot => ∃ a, v = some (.ref a) ∧ p = some a
  | .sett S => ∃ a L, v = some (.ref a) ∧ p ≠ some a ∧ H a = some (SetTO k.P k.w a L) ∧ (∀ q ∈ L, SqT k.K F q.1 (q.2.map V.int)) ∧ ∀ x, S x ↔ x ∈ L.map (·.2)
  | .dic kds => ∃ (a : Addr) (L : DL3) (ds : List PyData), v = some (.ref a) ∧ (H0 a = none ∧ F a = none ∧ p ≠ some a ∧ H a = some (DicTO a L)) ∧ (∀ q ∈ L, SqT k.K F q.2.1 (q.1.map V.int)) ∧ DVs k.K F (L.map fun q => q.2.2) ds ∧ kds = (L.map fun q => q.1).zip ds
  | .rdic kds => ∃ (a : Addr) (L : DL3) (ds : List PyData), v = some (.ref a) ∧ (H0 a ≠ none ∧ F a = none ∧ p ≠ some a ∧ H a = some (DicTO a L)) ∧ (∀ q ∈ L, SqT k.K F q.2.1 (q.1.map V.int)) ∧ DVs k.K F (L.map fun q => q.2.2) ds ∧ kds = (L.map fun q => q.1).zip ds
  | .mdic a kds => ∃ (L : DL3) (ds : List PyData), v = some (.ref a) ∧ (H0 a = none ∧ F a = none ∧ p ≠ some a ∧ H a = some (DicTO a L)) ∧ (∀ q ∈ L, SqT k.K F q.2.1 (q.1.map V.int)) ∧ DVs k.K F (L.map fun q => q.2.2) ds ∧ kds = (L.map fun q => q.1).zip ds
  | .tmp its => ∃ t vs as, v = some (.ref t) ∧ (H0 t = none ∧ F t = none ∧ p ≠ some t ∧ H t = some (.lst vs)) ∧ NIs k p H0 F H vs its as ∧ (t :: as).Nodup
  | .fact φ => ∀ F2, Same F F2 → φ v F2

abbrev Rho := List Sl
abbrev Sg := L2.St
/-- the slot's value -/
def slv (σ : Sg) (i : Nat) : Option V := (σ[i]?).join
structure Rep (k : Kw) (p : Option Addr) (H0 F H : Hp) (σ : Sg) (ρ : Rho) : Prop where
  len : σ.length = ρ.length
  all : ∀ i sl, ρ[i]? = some sl → SlOk k p H0 F H (slv σ i) sl
  own : ∀ i j ds es a, ρ[i]? = some (.own ds) → ρ[j]? = some (.own es) → slv σ i = some (.ref a) → slv σ j = some (.ref a) → i = j

section
variable {k : Kw} {p : Option Addr} {H0 F H F' H' : Hp} {σ : Sg} {ρ : Rho}
theorem NIs.ext {vs : List V} {its : List (Bool × PyData)} {as : List Addr} (h : NIs k p H0 F H vs its as) (x : Ext p F H F' H') : NIs k p H0 F' H' vs its as := by
  induction h with
  | nil => exact .nil
  | dat h _ ih => exact .dat (h.mono x.ff) ih
  | own h r _ ih => exact .own ⟨h.1, x.fr _ _ h.2.2.2 h.2.1, h.2.2.1, x.hh _ _ h.2.2.1 h.2.2.2⟩ (r.mono x.ff) ih
theorem NIs.move {p' : Option Addr} {H0' : Hp} {vs : List V} {its : List (Bool × PyData)} {as : List Addr} (h : NIs k p H0 F H vs its as)
    (m : ∀ a ws, a ∈ as → (H0 a = none ∧ F a = none ∧ p ≠ some a ∧ H a = some (.lst ws)) → (H0' a = none ∧ F a = none ∧ p' ≠ some a ∧ H' a = some (.lst ws))) : NIs k p' H0' F H' vs its as := by
  induction h with
  | nil => exact .nil
  | dat h _ ih => exact .dat h (ih m)
  | own h r _ ih => exact .own (m _ _ (List.mem_cons_self ..) h) r (ih fun a ws ha => m a ws (List.mem_cons_of_mem _ ha))
theorem SlOk.ext {v : Option V} {sl : Sl} (h : SlOk k p H0 F H v sl) (x : Ext p F H F' H') : SlOk k p H0 F' H' v sl := by
  cases sl with
  | emp => trivial
  | dat d => obtain ⟨y, e, r⟩ := h; exact ⟨y, e, r.mono x.ff⟩
  | own ds =>
    obtain ⟨a, vs, e, h0, n, hp, q, r⟩ := h
    exact ⟨a, vs, e, h0, x.fr a _ q n, hp, x.hh a _ hp q, r.mono x.ff⟩
  | pot => exact h
  | sett S =>
    obtain ⟨a, L, e, hp, q, r, s⟩ := h
    exact ⟨a, L, e, hp, x.hh a _ hp q, fun z hz => sqt_same x.ff (r z hz), s⟩
  | dic kds =>
    obtain ⟨a, L, ds, e, ⟨h0, n, hp, q⟩, r, w, z⟩ := h
    exact ⟨a, L, ds, e, ⟨h0, x.fr a _ q n, hp, x.hh a _ hp q⟩, fun z hz => sqt_same x.ff (r z hz), w.mono x.ff, z⟩
  | rdic kds =>
    obtain ⟨a, L, ds, e, ⟨h0, n, hp, q⟩, r, w, z⟩ := h
    exact ⟨a, L, ds, e, ⟨h0, x.fr a _ q n, hp, x.hh a _ hp q⟩, fun z hz => sqt_same x.ff (r z hz), w.mono x.ff, z⟩
  | mdic a kds =>
    obtain ⟨L, ds, e, ⟨h0, n, hp, q⟩, r, w, z⟩ := h
    exact ⟨L, ds, e, ⟨h0, x.fr a _ q n, hp, x.hh a _ hp q⟩, fun z hz => sqt_same x.ff (r z hz), w.mono x.ff, z⟩
  | tmp its =>
    obtain ⟨t, vs, as, e, ⟨t0, tf, tp, th⟩, r1, nd⟩ := h
    exact ⟨t, vs, as, e, ⟨t0, x.fr t _ th tf, tp, x.hh t _ tp th⟩, r1.ext x, nd⟩
  | fact φ => exact fun F2 e => h F2 (x.ff.trans e)
theorem Rep.ext (r : Rep k p H0 F H σ ρ) (x : Ext p F H F' H') : Rep k p H0 F' H' σ ρ :=
  ⟨r.len, fun i sl e => (r.all i sl e).ext x, r.own⟩
theorem slv_of {i : Nat} {v : V} (e : slv σ i = some v) : σ[i]? = some (some v) := by
  unfold slv at e
  cases q : σ[i]? with
  | none => rw [q] at e; cases e
  | some o => rw [q] at e; exact congrArg some e
theorem slv_eq {i : Nat} {v : V} (e : σ[i]? = some (some v)) : slv σ i = some v := by
  unfold slv; rw [e]; rfl
theorem slv_set_same {i : Nat} {o : Option V} (h : i < σ.length) : slv (σ.set i o) i = o := by
  unfold slv; rw [List.getElem?_set_self h]; rfl
theorem slv_set_ne {i j : Nat} {o : Option V} (h : i ≠ j) : slv (σ.set i o) j = slv σ j := by
  unfold slv; rw [List.getElem?_set_ne h]
/-- a name gets data (or nothing is known of it any more) -/
theorem Rep.set (r : Rep k p H0 F H σ ρ) (i : Nat) (o : Option V) {sl : Sl} (h : SlOk k p H0 F H o sl) (hn : ∀ ds, sl ≠ .own ds) : Rep k p H0 F H (σ.set i o) (ρ.set i sl) := by
  refine ⟨by simp [r.len], fun j s e => ?_, fun j l ds es a e1 e2 e3 e4 => ?_⟩
  · by_cases hj : i = j
    · subst hj
      have hi : i < ρ.length := by
        have := (List.getElem?_eq_some_iff.mp e).1
        simpa using this
      rw [List.getElem?_set_self hi] at e
      cases e
      rw [slv_set_same (by rw [r.len]; exact hi)]
      exact h
    · rw [List.getElem?_set_ne hj] at e
      rw [slv_set_ne hj]
      exact r.all j s e
  · have nj : i ≠ j := fun z => by
      subst z
      have hi : i < ρ.length := by
        have := (List.getElem?_eq_some_iff.mp e1).1
        simpa using this
      rw [List.getElem?_set_self hi] at e1
      cases e1; exact hn ds rfl
    have nl : i ≠ l := fun z => by
      subst z
      have hi : i < ρ.length := by
        have := (List.getElem?_eq_some_iff.mp e2).1
        simpa using this
      rw [List.getElem?_set_self hi] at e2
      cases e2; exact hn es rfl
    rw [List.getElem?_set_ne nj] at e1
    rw [List.getElem?_set_ne nl] at e2
    rw [slv_set_ne nj] at e3
    rw [slv_set_ne nl] at e4
    exact r.own j l ds es a e1 e2 e3 e4
/-- a name gets an own list that no other name has -/
theorem Rep.setOwn (r : Rep k p H0 F H σ ρ) (i : Nat) {a : Addr} {vs : List V} {ds : List PyData} (h0 : H0 a = none) (hf : F a = none) (hp : p ≠ some a) (e : H a = some (.lst vs)) (hv : DVs k.K F vs ds)
    (new : ∀ j es, j ≠ i → ρ[j]? = some (.own es) → slv σ j ≠ some (.ref a)) : Rep k p H0 F H (σ.set i (some (.ref a))) (ρ.set i (.own ds)) := by
  have inρ : ∀ {j : Nat} {sl : Sl}, (ρ.set i (.own ds))[j]? = some sl → j < ρ.length := fun q => by
    have := (List.getElem?_eq_some_iff.mp q).1
    simpa using this
  refine ⟨by simp [r.len], fun j s q => ?_, fun j l ds' es a' e1 e2 e3 e4 => ?_⟩
  · by_cases hj : i = j
    · subst hj
      have hi := inρ q
      rw [List.getElem?_set_self hi] at q
      cases q
      rw [slv_set_same (by rw [r.len]; exact hi)]
      exact ⟨a, vs, rfl, h0, hf, hp, e, hv⟩
    · rw [List.getElem?_set_ne hj] at q
      rw [slv_set_ne hj]
      exact r.all j s q
  · by_cases hj : i = j
    · by_cases hl : i = l
      · rw [← hj, ← hl]
      · subst hj
        have hi := inρ e1
        rw [slv_set_same (by rw [r.len]; exact hi)] at e3
        cases e3
        rw [List.getElem?_set_ne hl] at e2
        rw [slv_set_ne hl] at e4
        exact absurd e4 (new l es (Ne.symm hl) e2)
    · by_cases hl : i = l
      · subst hl
        have hi := inρ e2
        rw [slv_set_same (by rw [r.len]; exact hi)] at e4
        cases e4
        rw [List.getElem?_set_ne hj] at e1
        rw [slv_set_ne hj] at e3
        exact absurd e3 (new j ds' (Ne.symm hj) e1)
      · rw [List.getElem?_set_ne hj] at e1
        rw [List.getElem?_set_ne hl] at e2
        rw [slv_set_ne hj] at e3
        rw [slv_set_ne hl] at e4
        exact r.own j l ds' es a' e1 e2 e3 e4
end
end DL


namespace DL
open PySem PySem.Spec PyProof.Rows L2

/-! ### judgements -/
abbrev DT := Rho → (PyData → Prop) → Prop
abbrev DTT := Rho → (Bool → Prop) → Prop
inductive Arg where
  | d (x : PyData)
  | p
abbrev DAT := Rho → (List Arg → Prop) → Prop

def tD (k : Kw) (t : DT) : TE := fun σ H Q => ∃ p H0 F ρ, ∃ Qd : PyData → Prop, Fit p F H ∧ Rep k p H0 F H σ ρ ∧ t ρ Qd ∧ ∀ d v F' H', Ext p F H F' H' → DV k.K F' v d → Qd d → Q v H'
def tDT (k : Kw) (t : DTT) : TT := fun σ H Q => ∃ p H0 F ρ, ∃ Qd : Bool → Prop, Fit p F H ∧ Rep k p H0 F H σ ρ ∧ t ρ Qd ∧ ∀ b F' H', Ext p F H F' H' → Qd b → Q b H'
inductive ArgOk (k : Kw) (p : Option Addr) (F : Hp) : V → Arg → Prop
  | d {v : V} {x : PyData} : DV k.K F v x → ArgOk k p F v (.d x)
  | p {a : Addr} : p = some a → ArgOk k p F (.ref a) .p
inductive ArgsOk (k : Kw) (p : Option Addr) (F : Hp) : List V → List Arg → Prop
  | nil : ArgsOk k p F [] []
  | cons {v : V} {a : Arg} {vs : List V} {as : List Arg} : ArgOk k p F v a → ArgsOk k p F vs as → ArgsOk k p F (v :: vs) (a :: as)
def tDA (k : Kw) (t : DAT) : TA := fun σ H Q => ∃ p H0 F ρ, ∃ Qd : List Arg → Prop, Fit p F H ∧ Rep k p H0 F H σ ρ ∧ t ρ Qd ∧ ∀ as vs F' H', Ext p F H F' H' → ArgsOk k p F' vs as → Qd as → Q vs H'

abbrev DE (X : Cx) (e : Expr) (t : DT) : Prop := PE X e (tD (kw X) t)
abbrev DC (X : Cx) (e : Expr) (t : DTT) : Prop := PT X e (tDT (kw X) t)
abbrev DW (X : Cx) (e : Expr) (t : DTT) : Prop := PW X e (tDT (kw X) t)
abbrev DA (X : Cx) (es : List Expr) (t : DAT) : Prop := PA X es (tDA (kw X) t)

theorem PE.wk {X : Cx} {e : Expr} {t u : TE} (h : PE X e t) (w : ∀ σ H Q, u σ H Q → t σ H Q) : PE X e u := ⟨fun pins s σ H Q I q => h.run pins s σ H Q I (w σ H Q q)⟩
theorem PT.wk {X : Cx} {e : Expr} {t u : TT} (h : PT X e t) (w : ∀ σ H Q, u σ H Q → t σ H Q) : PT X e u := ⟨fun pins s σ H Q I q => h.run pins s σ H Q I (w σ H Q q)⟩
theorem PW.wk {X : Cx} {e : Expr} {t u : TT} (h : PW X e t) (w : ∀ σ H Q, u σ H Q → t σ H Q) : PW X e u := ⟨fun wh pins s σ H Q I q => h.run wh pins s σ H Q I (w σ H Q q)⟩
theorem PA.wk {X : Cx} {es : List Expr} {t u : TA} (h : PA X es t) (w : ∀ σ H Q, u σ H Q → t σ H Q) : PA X es u := ⟨fun pos pins s σ H Q I q => h.run pos pins s σ H Q I (w σ H Q q)⟩

section
variable {k : Kw} {p : Option Addr} {F F' : Hp}
theorem ArgOk.mono (e : Same F F') {v : V} {a : Arg} (h : ArgOk k p F v a) : ArgOk k p F' v a := by
  cases h with
  | d h => exact .d (h.mono e)
  | p h => exact .p h
theorem ArgsOk.mono (e : Same F F') : ∀ {vs : List V} {as : List Arg}, ArgsOk k p F vs as → ArgsOk k p F' vs as
  | _, _, .nil => .nil
  | _, _, .cons h r => .cons (h.mono e) (ArgsOk.mono e r)
theorem ArgsOk.length : ∀ {vs : List V} {as : List Arg}, ArgsOk k p F vs as → vs.length = as.length
  | _, _, .nil => rfl
  | _, _, .cons _ r => by simp [ArgsOk.length r]
def dats (ds : List PyData) : List Arg := ds.map Arg.d
theorem ArgsOk.dats : ∀ {vs : List V} {ds : List PyData}, ArgsOk k p F vs (dats ds) → DVs k.K F vs ds
  | _, [], .nil => .nil
  | _, _ :: _, .cons (.d h) r => .cons h (ArgsOk.dats r)
end

/-! ### names, constants -/
section
variable {X : Cx} {pos : Pos}
def dName (i : Nat) : DT := fun ρ Q => match ρ[i]? with | some (.dat d) => Q d | _ => False
theorem de_name (i : Nat) {x : Str} (hN : X.N[i]? = some x := by rfl) (hv : Vis X.env.scope x := by first | exact Or.inl rfl | exact Or.inr (Or.inl rfl) | exact Or.inr (Or.inr rfl)) (hd : (x == ("__debug__" : Str)) = false := by decide)
    (hcd : (x == ("__classdict__" : Str)) = false := by decide) : DE X (.Name x pos) (dName i) := by
  refine PE.wk (pe_var hN hv hd hcd) fun σ H Q ⟨p, H0, F, ρ, Qd, f, r, t, k⟩ => ?_
  unfold dName at t
  split at t
  · rename_i d e
    obtain ⟨v, ev, hv⟩ := r.all i _ e
    exact ⟨v, slv_of ev, k d v F H (Ext.refl f.sub) hv t⟩
  · exact t.elim
def dK (d : PyData) : DT := fun _ Q => Q d
theorem de_const {e : Expr} {v : V} {d : PyData} (h : PE X e (tC v)) (r : ∀ F, DV X.K F v d) : DE X e (dK d) :=
  PE.wk h fun σ H Q ⟨p, H0, F, ρ, Qd, f, _, t, k⟩ => k d v F H (Ext.refl f.sub) (r F) t
theorem de_int {i j} : DE X (.Constant (.int i) j pos) (dK (.int i)) := de_const pe_int fun _ => .int i
theorem de_bl {b j} : DE X (.Constant (.bool b) j pos) (dK (.bool b)) := de_const pe_bl fun _ => .bl b
theorem de_non {j} : DE X (.Constant .none j pos) (dK .none) := de_const pe_non fun _ => .non
theorem de_str {x j} : DE X (.Constant (.str x) j pos) (dK (.str x)) := de_const pe_str fun _ => .str x
theorem de_globI {x : Str} {i : Int} {t : Tok} (hm : X.mg x = some (.int i t)) (hg : Gl X x := by rfl) (hd : (x == ("__debug__" : Str)) = false := by decide) : DE X (.Name x pos) (dK (.int i)) :=
  de_const (pe_glob (v := .int i) hg hm ⟨t, rfl⟩ hd) fun _ => .int i
theorem de_globS {x : Str} {i : Str} {t : Tok} (hm : X.mg x = some (.str i t)) (hg : Gl X x := by rfl) (hd : (x == ("__debug__" : Str)) = false := by decide) : DE X (.Name x pos) (dK (.str i)) :=
  de_const (pe_glob (v := .str i) hg hm ⟨t, rfl⟩ hd) fun _ => .str i
end

/-! ### operators -/
def R2D (k : Kw) (r : R2) (g : PyData → PyData → (PyData → Prop) → Prop) : Prop :=
  ∀ p F H x y d e (Qd : PyData → Prop) (Q : VK), Fit p F H → DV k.K F x d → DV k.K F y e → g d e Qd → (∀ c z F' H', Ext p F H F' H' → DV k.K F' z c → Qd c → Q z H') → r x y H Q
abbrev G2 := PyData → PyData → (PyData → Prop) → Prop
def OpD (X : Cx) (f : Value → Value → Sem Value) (g : G2) : Prop := ∃ r, OpR X f r ∧ R2D (kw X) r g
def dOp (g : G2) (ta tb : DT) : DT := fun ρ Q => ta ρ fun d => tb ρ fun e => g d e Q
section
variable {X : Cx} {pos : Pos} {a b : Expr} {ta tb : DT}
theorem dop_run {k : Kw} {r : R2} {g : G2} (hr : R2D k r g) {σ : Sg} {H : Hp} {Q : VK} (h : tD k (dOp g ta tb) σ H Q) : tOp r (tD k ta) (tD k tb) σ H Q := by
  obtain ⟨p, H0, F, ρ, Qd, f, rp, t, q⟩ := h
  refine ⟨p, H0, F, ρ, _, f, rp, t, fun d x F1 H1 e1 r1 q1 => ?_⟩
  refine ⟨p, H0, F1, ρ, _, e1.fit f, rp.ext e1, q1, fun e y F2 H2 e2 r2 q2 => ?_⟩
  exact hr p F2 H2 x y d e Qd Q (e2.fit (e1.fit f)) (r1.mono e2.ff) r2 q2 fun c z F3 H3 e3 r3 q3 => q c z F3 H3 ((e1.trans f e2).trans f e3) r3 q3
theorem de_op {op : Operator} {g : G2} (ho : OpD X (binaryOp op) g) (ha : DE X a ta) (hb : DE X b tb) : DE X (.BinOp a op b pos) (dOp g ta tb) := by
  obtain ⟨r, h1, h2⟩ := ho
  exact PE.wk (pe_op h1 ha hb) fun σ H Q h => dop_run h2 h
theorem de_cmp {op : CmpOp} {g : G2} (ho : OpD X (compareOp op) g) (ha : DE X a ta) (hb : DE X b tb) (hm : behindInMarks op b = false) : DE X (.Compare a [op] [b] pos) (dOp g ta tb) := by
  obtain ⟨r, h1, h2⟩ := ho
  exact PE.wk (pe_cmpR h1 ha hb hm) fun σ H Q h => dop_run h2 h
def gOr (g g' : G2) : G2 := fun d e Q => g d e Q ∨ g' d e Q
theorem OpD.or {f : Value → Value → Sem Value} {g g' : G2} (h : OpD X f g) (h' : OpD X f g') : OpD X f (gOr g g') := by
  obtain ⟨r, h1, h2⟩ := h
  obtain ⟨r', h1', h2'⟩ := h'
  refine ⟨_, OpR.or h1 h1', fun p F H x y d e Qd Q f rx ry hg q => ?_⟩
  rcases hg with hg | hg
  · exact .inl (h2 p F H x y d e Qd Q f rx ry hg q)
  · exact .inr (h2' p F H x y d e Qd Q f rx ry hg q)
theorem OpD.imp {f : Value → Value → Sem Value} {g g' : G2} (h : OpD X f g) (w : ∀ d e Q, g' d e Q → g d e Q) : OpD X f g' := by
  obtain ⟨r, h1, h2⟩ := h
  exact ⟨r, h1, fun p F H x y d e Qd Q f rx ry hg q => h2 p F H x y d e Qd Q f rx ry (w d e Qd hg) q⟩
/-- whole numbers -/
def gI (C : Int → Int → Prop) (g : Int → Int → PyData) : G2 := fun d e Q => match d, e with | .int i, .int j => C i j ∧ Q (g i j) | _, _ => False
theorem opd_rI {f : Value → Value → Sem Value} {C : Int → Int → Prop} {g : Int → Int → V} {g' : Int → Int → PyData} (h : OpR X f (rI C g)) (w : ∀ F i j, DV X.K F (g i j) (g' i j)) : OpD X f (gI C g') := by
  refine ⟨_, h, fun p F H x y d e Qd Q f rx ry hg q => ?_⟩
  unfold gI at hg
  split at hg
  · cases rx; cases ry
    exact ⟨_, _, rfl, rfl, hg.1, q _ _ F H (Ext.refl f.sub) (w F _ _) hg.2⟩
  · exact hg.elim
theorem opd_rI0 {f : Value → Value → Sem Value} {g : Int → Int → V} {g' : Int → Int → PyData} (h : OpR X f (rI0 g)) (w : ∀ F i j, DV X.K F (g i j) (g' i j)) : OpD X f (gI (fun _ _ => True) g') := by
  refine ⟨_, h, fun p F H x y d e Qd Q f rx ry hg q => ?_⟩
  unfold gI at hg
  split at hg
  · cases rx; cases ry
    exact ⟨_, _, rfl, rfl, q _ _ F H (Ext.refl f.sub) (w F _ _) hg.2⟩
  · exact hg.elim
end

/-- + of whole numbers, texts, tuples, lists -/
def gAdd : G2 := fun d e Q => match d, e with
  | .int i, .int j => Q (.int (i + j))
  | .str x, .str y => x.length + y.length ≤ 16777216 ∧ Q (.str (x ++ y))
  | .tuple xs, .tuple ys => xs.length + ys.length ≤ 16777216 ∧ Q (.tuple (xs ++ ys))
  | .list xs, .list ys => xs.length + ys.length ≤ 16777216 ∧ Q (.list (xs ++ ys))
  | _, _ => False
section
variable {X : Cx}
theorem DVs.nil_iff {K : PySem.W.Frag} {F : Hp} {vs : List V} {ds : List PyData} (h : DVs K F vs ds) : vs = [] ↔ ds = [] := by
  cases h <;> simp
theorem sl_eq : sizeLine = 16777216 := sizeLine_eq
def rCatL (K : PySem.W.Frag) : R2 := fun x y H Q => ∃ l b xs zs, x = .ref l ∧ y = .ref b ∧ SqL K H l xs ∧ SqL K H b zs ∧ xs.length + zs.length ≤ sizeLine ∧ ∀ p, H p = none → Q (.ref p) (upd H p (.lst (xs ++ zs)))
theorem op_catL : OpR X (binaryOp .Add) (rCatL X.K) := by
  intro pins s σ H x y v u Q I rx ry h
  obtain ⟨l, b, xs, zs, rfl, rfl, hH, hB, hz, q⟩ := h
  cases rx
  cases ry
  obtain ⟨its, r, ⟨⟨cls, dd, data, sl⟩, n, ho, hc, hdn, hd⟩, hl⟩ := I.list hH
  obtain ⟨its2, r2, ⟨⟨cls2, dd2, data2, sl2⟩, n2, ho2, hc2, hdn2, hd2⟩, hl2⟩ := I.list hB
  simp only at hc hd hc2 hd2
  subst hc hd hc2 hd2
  have e : its.toArray ++ its2.toArray = (its ++ its2).toArray := by simp
  refine concat_meets ⟨_, ho, rfl⟩ ⟨_, ho2, rfl⟩ noFill_list_add seq_list_add PySem.F.slot_list_add PySem.F.entry_list_add (PySem.F.args_list_add_2 _ _) (list_addW l b its.toArray its2.toArray n n2 dd dd2 sl sl2 (by rw [List.size_toArray, List.size_toArray, ← r.length, ← r2.length]; exact hz)) ⟨ho, ho2, ?_⟩
  rw [e]
  exact ⟨.ref _, _, I.lnew (t' := s.toks) (r.append r2) (by rw [List.length_append]; omega), rfl, q _ I.fresh⟩
theorem od_add : OpD X (binaryOp .Add) gAdd := by
  refine ⟨_, OpR.or (OpR.or op_add op_add_str) (OpR.or op_catA op_catL), fun p F H x y d e Qd Q f rx ry hg q => ?_⟩
  unfold gAdd at hg
  split at hg
  · cases rx; cases ry
    exact .inl (.inl ⟨_, _, rfl, rfl, q _ _ F H (Ext.refl f.sub) (.int _) hg⟩)
  · cases rx; cases ry
    exact .inl (.inr ⟨_, _, rfl, rfl, by rw [sl_eq]; exact hg.1, q _ _ F H (Ext.refl f.sub) (.str _) hg.2⟩)
  · rename_i xs ys
    cases rx with
    | @tup ax vxs _ hx vx =>
      cases ry with
      | @tup ay vys _ hy vy =>
        refine .inr (.inl ⟨_, _, _, _, rfl, rfl, sqt_same f.sub hx, sqt_same f.sub hy, by rw [sl_eq, vx.length, vy.length]; exact hg.1, fun z => ?_, fun _ z => ?_, fun _ _ a ha => ?_⟩)
        · have e := vx.nil_iff.mp z
          subst e
          exact q _ _ F H (Ext.refl f.sub) (.tup hy vy) hg.2
        · have e := vy.nil_iff.mp z
          subst e
          exact q _ _ F H (Ext.refl f.sub) (.tup hx vx) (by simpa using hg.2)
        · have x := Ext.new f (o := .tup (vxs ++ vys)) ha
          exact q _ _ _ _ x (.tup (.of upd_same) ((vx.append vy).mono x.ff)) hg.2
  · cases rx with
    | @lst ax vxs _ hx vx =>
      cases ry with
      | @lst ay vys _ hy vy =>
        refine .inr (.inr ⟨_, _, _, _, rfl, rfl, sql_same f.sub hx, sql_same f.sub hy, by rw [sl_eq, vx.length, vy.length]; exact hg.1, fun a ha => ?_⟩)
        have x := Ext.new f (o := .lst (vxs ++ vys)) ha
        exact q _ _ _ _ x (.lst (.of upd_same) ((vx.append vy).mono x.ff)) hg.2
  · exact hg.elim
theorem od_sub : OpD X (binaryOp .Sub) (gI (fun _ _ => True) fun i j => .int (i - j)) := opd_rI0 op_sub fun _ _ _ => .int _
theorem od_mod : OpD X (binaryOp .Mod) (gI (fun _ j => j ≠ 0) fun i j => .int (i.fmod j)) := opd_rI op_modN fun _ _ _ => .int _
theorem od_div : OpD X (binaryOp .FloorDiv) (gI CDivN fun i j => .int (i.fdiv j)) := opd_rI op_fdivN fun _ _ _ => .int _
theorem od_pow : OpD X (binaryOp .Pow) (gI CPow fun i j => .int (i ^ j.toNat)) := opd_rI op_pow fun _ _ _ => .int _
def gMul : G2 := fun d e Q => match d, e with
  | .int i, .int j => CMul i j ∧ Q (.int (i * j))
  | .tuple xs, .int j => (xs ≠ [] ∧ 2 ≤ j ∧ j ≤ 1000 ∧ xs.length ≤ 1000) ∧ Q (.tuple (List.replicate j.toNat xs).flatten)
  | _, _ => False
theorem DVs.rep {K : PySem.W.Frag} {F : Hp} {vs : List V} {ds : List PyData} (h : DVs K F vs ds) : ∀ n : Nat, DVs K F (List.replicate n vs).flatten (List.replicate n ds).flatten
  | 0 => .nil
  | n + 1 => by
    rw [List.replicate_succ, List.replicate_succ, List.flatten_cons, List.flatten_cons]
    exact h.append (DVs.rep h n)
theorem od_mul : OpD X (binaryOp .Mult) gMul := by
  refine ⟨_, OpR.or op_mul op_repT, fun p F H x y d e Qd Q f rx ry hg q => ?_⟩
  unfold gMul at hg
  split at hg
  · cases rx; cases ry
    exact .inl ⟨_, _, rfl, rfl, hg.1, q _ _ F H (Ext.refl f.sub) (.int _) hg.2⟩
  · rename_i xs j
    cases rx with
    | @tup ax vxs _ hx vx =>
      cases ry
      obtain ⟨⟨h0, h1, h2, h3⟩, h4⟩ := hg
      have l := vx.length
      refine .inr ⟨_, _, _, rfl, rfl, sqt_same f.sub hx, fun z => h0 (vx.nil_iff.mp z), h1, h2, by omega, fun a ha => ?_⟩
      have x := Ext.new f (o := .tup (List.replicate j.toNat vxs).flatten) ha
      exact q _ _ _ _ x (.tup (.of upd_same) ((vx.rep _).mono x.ff)) h4
  · exact hg.elim
end
end DL


namespace DL
open PySem PySem.Spec PyProof.Rows L2

/-! ### comparisons -/
def okD (d : PyData) : Bool := !d.hasDict && SeqAt.shaped d
/-- == of data: whole numbers and such of any size by scal -/
def gEq (neg : Bool) : G2 := fun d e Q => (okD d && okD e) = true ∧ Q (.bool (if neg then !PyData.eqv d e else PyData.eqv d e))
section
variable {X : Cx}
theorem okD_iff {d : PyData} (h : okD d = true) : d.hasDict = false ∧ SeqAt.shaped d = true := by
  unfold okD at h
  simpa using h
theorem od_eq (hu : X.A.units + 64 < cLine) : OpD X (compareOp .Eq) (gEq false) := by
  refine ⟨_, op_eqD hu, fun p F H x y d e Qd Q f rx ry hg q => ?_⟩
  obtain ⟨h, hq⟩ := hg
  simp only [Bool.and_eq_true] at h
  obtain ⟨h1, h2⟩ := okD_iff h.1
  obtain ⟨h3, h4⟩ := okD_iff h.2
  exact ⟨d, e, (rx.mono f.sub).dp h1, (ry.mono f.sub).dp h3, h2, h4, q _ _ F H (Ext.refl f.sub) (.bl _) hq⟩
theorem od_ne (hu : X.A.units + 64 < cLine) : OpD X (compareOp .NotEq) (gEq true) := by
  refine ⟨_, op_neD hu, fun p F H x y d e Qd Q f rx ry hg q => ?_⟩
  obtain ⟨h, hq⟩ := hg
  simp only [Bool.and_eq_true] at h
  obtain ⟨h1, h2⟩ := okD_iff h.1
  obtain ⟨h3, h4⟩ := okD_iff h.2
  exact ⟨d, e, (rx.mono f.sub).dp h1, (ry.mono f.sub).dp h3, h2, h4, q _ _ F H (Ext.refl f.sub) (.bl _) hq⟩
def isNone : PyData → Bool
  | .none => true
  | _ => false
def gIs (neg : Bool) : G2 := fun d e Q => match e with | .none => Q (.bool (if neg then !isNone d else isNone d)) | _ => False
theorem non_iff {K : PySem.W.Frag} {F : Hp} {x : V} {d : PyData} (h : DV K F x d) : decide (x = V.non) = isNone d := by
  cases h <;> rfl
theorem od_is : OpD X (compareOp .Is) (gIs false) := by
  refine ⟨_, op_isN, fun p F H x y d e Qd Q f rx ry hg q => ?_⟩
  unfold gIs at hg
  split at hg
  · cases ry
    rw [non_iff rx]
    exact ⟨rfl, q _ _ F H (Ext.refl f.sub) (.bl _) hg⟩
  · exact hg.elim
theorem od_isNot : OpD X (compareOp .IsNot) (gIs true) := by
  refine ⟨_, op_notN, fun p F H x y d e Qd Q f rx ry hg q => ?_⟩
  unfold gIs at hg
  split at hg
  · cases ry
    rw [non_iff rx]
    exact ⟨rfl, q _ _ F H (Ext.refl f.sub) (.bl _) hg⟩
  · exact hg.elim
/-- a tuple of whole numbers -/
def intsOf : List PyData → Option (List Int)
  | [] => some []
  | .int i :: r => (intsOf r).map (i :: ·)
  | _ :: _ => none
theorem intsOf_eq : ∀ {ds : List PyData} {ns : List Int}, intsOf ds = some ns → ds = ns.map PyData.int
  | [], _, h => by simp [intsOf] at h; subst h; rfl
  | .int i :: r, ns, h => by
    simp only [intsOf, Option.map_eq_some_iff] at h
    obtain ⟨a, h1, rfl⟩ := h
    rw [intsOf_eq h1]; rfl
theorem intsOf_map (ns : List Int) : intsOf (ns.map PyData.int) = some ns := by
  induction ns with
  | nil => rfl
  | cons n ns ih => simp [intsOf, ih]
def gLt : G2 := fun d e Q => match d, e with
  | .int i, .int j => Q (.bool (decide (i < j)))
  | .tuple xs, .tuple ys => ∃ ns ms, intsOf xs = some ns ∧ intsOf ys = some ms ∧ Q (.bool (HT.lexLt ns ms))
  | _, _ => False
theorem od_lt (hu : X.A.units < cLine) : OpD X (compareOp .Lt) gLt := by
  refine ⟨_, OpR.or op_lt (op_ltT hu), fun p F H x y d e Qd Q f rx ry hg q => ?_⟩
  unfold gLt at hg
  split at hg
  · cases rx; cases ry
    exact .inl ⟨_, _, rfl, rfl, q _ _ F H (Ext.refl f.sub) (.bl _) hg⟩
  · obtain ⟨ns, ms, h1, h2, h3⟩ := hg
    cases rx with
    | tup hx vx =>
      cases ry with
      | tup hy vy =>
        have e1 := intsOf_eq h1
        have e2 := intsOf_eq h2
        subst e1 e2
        have i1 := vx.ints
        have i2 := vy.ints
        subst i1 i2
        exact .inr ⟨_, _, ns, ms, rfl, rfl, sqt_same f.sub hx, sqt_same f.sub hy, q _ _ F H (Ext.refl f.sub) (.bl _) h3⟩
  · exact hg.elim
def gCmpI (c : Int → Int → Bool) : G2 := fun d e Q => match d, e with
  | .int i, .int j => Q (.bool (c i j))
  | _, _ => False
theorem gCmpI_gI {c : Int → Int → Bool} : ∀ d e Q, gCmpI c d e Q → gI (fun _ _ => True) (fun i j => .bool (c i j)) d e Q := by
  intro d e Q h
  unfold gCmpI at h
  split at h
  · exact ⟨trivial, h⟩
  · exact h.elim
theorem od_le : OpD X (compareOp .LtE) (gCmpI fun i j => decide (i ≤ j)) := (opd_rI0 op_le fun _ _ _ => .bl _).imp gCmpI_gI
theorem od_gt : OpD X (compareOp .Gt) (gCmpI fun i j => decide (j < i)) := (opd_rI0 op_gt fun _ _ _ => .bl _).imp gCmpI_gI
theorem od_ge : OpD X (compareOp .GtE) (gCmpI fun i j => decide (j ≤ i)) := (opd_rI0 op_ge fun _ _ _ => .bl _).imp gCmpI_gI
/-- in, not in a list or a tuple of data -/
def gIn (neg : Bool) : G2 := fun d e Q => match e with
  | .list ds => (okD d && okD (.list ds)) = true ∧ Q (.bool (if neg then !ds.any fun z => PyData.eqv z d else ds.any fun z => PyData.eqv z d))
  | .tuple ds => (okD d && okD (.tuple ds)) = true ∧ Q (.bool (if neg then !ds.any fun z => PyData.eqv z d else ds.any fun z => PyData.eqv z d))
  | _ => False
def rInT (K : PySem.W.Frag) (neg : Bool) : R2 := fun x y H Q => ∃ d ds, Dp K H x d ∧ Dp K H y (.tuple ds) ∧ SeqAt.shaped d = true ∧ SeqAt.shaped (.tuple ds) = true ∧ Q (.bl (if neg then !ds.any fun z => PyData.eqv z d else ds.any fun z => PyData.eqv z d)) H
theorem room_inT {A : Around} {xs : List PyData} {d : PyData} (hd : SeqAt.shaped d = true) (hu : A.units + 65 < cLine) : A.units + 1 + min (PyData.depthAll xs) d.depth < cLine := by
  have h1 := SeqAt.depth_of_shaped hd
  have h2 : min (PyData.depthAll xs) d.depth ≤ d.depth := Nat.min_le_right _ _
  omega
theorem op_inT (hu : X.A.units + 65 < cLine) : OpR X (compareOp .In) (rInT X.K false) := by
  intro pins s σ H x y v u Q I rx ry h
  obtain ⟨d, ds, hd, he, sd, se, q⟩ := h
  obtain ⟨as, r1⟩ := Dp.reads I d x v hd rx
  obtain ⟨bs, r2⟩ := Dp.reads I (.tuple ds) y u he ry
  exact SeqAt.in_tuple_reads r2 r1 (SeqAt.canLay_of_shaped se) (SeqAt.canLay_of_shaped sd) (room_inT sd hu) ⟨.bl _, H, I, rfl, q⟩
theorem op_ninT (hu : X.A.units + 65 < cLine) : OpR X (compareOp .NotIn) (rInT X.K true) := by
  intro pins s σ H x y v u Q I rx ry h
  obtain ⟨d, ds, hd, he, sd, se, q⟩ := h
  obtain ⟨as, r1⟩ := Dp.reads I d x v hd rx
  obtain ⟨bs, r2⟩ := Dp.reads I (.tuple ds) y u he ry
  exact SeqAt.notIn_tuple_reads r2 r1 (SeqAt.canLay_of_shaped se) (SeqAt.canLay_of_shaped sd) (room_inT sd hu) ⟨.bl _, H, I, rfl, q⟩
theorem od_in (hu : X.A.units + 65 < cLine) : OpD X (compareOp .In) (gIn false) := by
  refine ⟨_, OpR.or (op_inD hu) (op_inT hu), fun p F H x y d e Qd Q f rx ry hg q => ?_⟩
  unfold gIn at hg
  split at hg
  · rename_i ds
    obtain ⟨h, hq⟩ := hg
    simp only [Bool.and_eq_true] at h
    obtain ⟨h1, h2⟩ := okD_iff h.1
    obtain ⟨h3, h4⟩ := okD_iff h.2
    exact .inl ⟨d, ds, (rx.mono f.sub).dp h1, (ry.mono f.sub).dp h3, h2, h4, q _ _ F H (Ext.refl f.sub) (.bl _) hq⟩
  · rename_i ds
    obtain ⟨h, hq⟩ := hg
    simp only [Bool.and_eq_true] at h
    obtain ⟨h1, h2⟩ := okD_iff h.1
    obtain ⟨h3, h4⟩ := okD_iff h.2
    exact .inr ⟨d, ds, (rx.mono f.sub).dp h1, (ry.mono f.sub).dp h3, h2, h4, q _ _ F H (Ext.refl f.sub) (.bl _) hq⟩
  · exact hg.elim
theorem od_nin (hu : X.A.units + 65 < cLine) : OpD X (compareOp .NotIn) (gIn true) := by
  refine ⟨_, OpR.or (op_notInD hu) (op_ninT hu), fun p F H x y d e Qd Q f rx ry hg q => ?_⟩
  unfold gIn at hg
  split at hg
  · rename_i ds
    obtain ⟨h, hq⟩ := hg
    simp only [Bool.and_eq_true] at h
    obtain ⟨h1, h2⟩ := okD_iff h.1
    obtain ⟨h3, h4⟩ := okD_iff h.2
    exact .inl ⟨d, ds, (rx.mono f.sub).dp h1, (ry.mono f.sub).dp h3, h2, h4, q _ _ F H (Ext.refl f.sub) (.bl _) hq⟩
  · rename_i ds
    obtain ⟨h, hq⟩ := hg
    simp only [Bool.and_eq_true] at h
    obtain ⟨h1, h2⟩ := okD_iff h.1
    obtain ⟨h3, h4⟩ := okD_iff h.2
    exact .inr ⟨d, ds, (rx.mono f.sub).dp h1, (ry.mono f.sub).dp h3, h2, h4, q _ _ F H (Ext.refl f.sub) (.bl _) hq⟩
  · exact hg.elim
end

/-! ### tests, and, or, not, conditional expressions -/
def dTr (t : DT) : DTT := fun ρ Q => t ρ fun d => match d with | .bool b => Q b | _ => False
def dAnd (t u : DTT) : DTT := fun ρ Q => t ρ fun b => match b with | true => u ρ Q | false => Q false
def dOr (t u : DTT) : DTT := fun ρ Q => t ρ fun b => match b with | true => Q true | false => u ρ Q
def dNot (t : DTT) : DTT := fun ρ Q => t ρ fun b => Q (!b)
def dAndV (t u : DT) : DT := fun ρ Q => t ρ fun d => match d with | .bool true => u ρ Q | .bool false => Q (.bool false) | _ => False
def dOrV (t u : DT) : DT := fun ρ Q => t ρ fun d => match d with | .bool true => Q (.bool true) | .bool false => u ρ Q | _ => False
def dNotV (t : DT) : DT := fun ρ Q => t ρ fun d => match d with | .bool b => Q (.bool (!b)) | _ => False
def dIf (c : DTT) (t u : DT) : DT := fun ρ Q => c ρ fun b => match b with | true => t ρ Q | false => u ρ Q
section
variable {X : Cx} {pos : Pos} {e a b c : Expr} {rest : List Expr} {t ta tb : DT} {tA tB tC' : DTT}
theorem dc_val (h : DE X e t) (he : ∀ whole, isTrue e X.env whole = (do let v ← whole; standAt e.pos; holding [v] (truthy v)) := by intro _; rfl) : DC X e (dTr t) := by
  refine PT.wk (pt_val h he) fun σ H Q ⟨p, H0, F, ρ, Qd, f, r, q, k⟩ => ?_
  refine ⟨p, H0, F, ρ, _, f, r, q, fun d v F' H' x hv hq => ?_⟩
  cases d with
  | bool b => cases hv; exact ⟨b, rfl, k b F' H' x hq⟩
  | _ => exact hq.elim
theorem dc_cmp {op : CmpOp} {g : G2} (ho : OpD X (compareOp op) g) (ha : DE X a ta) (hb : DE X b tb) (hm : behindInMarks op b = false) : DC X (.Compare a [op] [b] pos) (dTr (dOp g ta tb)) := by
  obtain ⟨r, h1, h2⟩ := ho
  refine PT.wk (pt_cmpR h1 ha hb hm) fun σ H Q ⟨p, H0, F, ρ, Qd, f, rp, q, k⟩ => ?_
  refine dop_run h2 ⟨p, H0, F, ρ, _, f, rp, q, fun d v F' H' x hv hq => ?_⟩
  cases d with
  | bool b => cases hv; exact ⟨b, rfl, k b F' H' x hq⟩
  | _ => exact hq.elim
theorem dc_not (h : DC X a tA) : DC X (.UnaryOp .Not a pos) (dNot tA) := by
  refine PT.wk (pt_not h) fun σ H Q ⟨p, H0, F, ρ, Qd, f, r, q, k⟩ => ?_
  exact ⟨p, H0, F, ρ, _, f, r, q, fun b F' H' x hq => k (!b) F' H' x hq⟩
theorem dw_and1 (h : DC X a tA) : DW X (.BoolOp .And [a] pos) tA := pw_and1 h
theorem dw_or1 (h : DC X a tA) : DW X (.BoolOp .Or [a] pos) tA := pw_or1 h
theorem dw_and (ha : DC X a tA) (hb : DW X (.BoolOp .And (b :: rest) pos) tB) : DW X (.BoolOp .And (a :: b :: rest) pos) (dAnd tA tB) := by
  refine PW.wk (pw_and ha hb) fun σ H Q ⟨p, H0, F, ρ, Qd, f, r, q, k⟩ => ?_
  refine ⟨p, H0, F, ρ, _, f, r, q, fun b F' H' x hq => ?_⟩
  cases b with
  | true => exact ⟨p, H0, F', ρ, Qd, x.fit f, r.ext x, hq, fun b F2 H2 x2 q2 => k b F2 H2 (x.trans f x2) q2⟩
  | false => exact k false F' H' x hq
theorem dw_or (ha : DC X a tA) (hb : DW X (.BoolOp .Or (b :: rest) pos) tB) : DW X (.BoolOp .Or (a :: b :: rest) pos) (dOr tA tB) := by
  refine PW.wk (pw_or ha hb) fun σ H Q ⟨p, H0, F, ρ, Qd, f, r, q, k⟩ => ?_
  refine ⟨p, H0, F, ρ, _, f, r, q, fun b F' H' x hq => ?_⟩
  cases b with
  | false => exact ⟨p, H0, F', ρ, Qd, x.fit f, r.ext x, hq, fun b F2 H2 x2 q2 => k b F2 H2 (x.trans f x2) q2⟩
  | true => exact k true F' H' x hq
theorem dc_bool {op} (h : DW X (.BoolOp op rest pos) tA) : DC X (.BoolOp op rest pos) tA := h.pt
theorem de_one {op} (h : DE X a t) : DE X (.BoolOp op [a] pos) t := pe_one h
theorem de_and (ha : DE X a ta) (hb : DE X (.BoolOp .And (b :: rest) pos) tb) : DE X (.BoolOp .And (a :: b :: rest) pos) (dAndV ta tb) := by
  refine PE.wk (pe_and ha hb) fun σ H Q ⟨p, H0, F, ρ, Qd, f, r, q, k⟩ => ?_
  refine ⟨p, H0, F, ρ, _, f, r, q, fun d v F' H' x hv hq => ?_⟩
  cases d with
  | bool b =>
    cases hv
    cases b with
    | true => exact ⟨true, rfl, p, H0, F', ρ, Qd, x.fit f, r.ext x, hq, fun d v F2 H2 x2 v2 q2 => k d v F2 H2 (x.trans f x2) v2 q2⟩
    | false => exact ⟨false, rfl, k _ _ F' H' x (.bl false) hq⟩
  | _ => exact hq.elim
theorem de_or (ha : DE X a ta) (hb : DE X (.BoolOp .Or (b :: rest) pos) tb) : DE X (.BoolOp .Or (a :: b :: rest) pos) (dOrV ta tb) := by
  refine PE.wk (pe_or ha hb) fun σ H Q ⟨p, H0, F, ρ, Qd, f, r, q, k⟩ => ?_
  refine ⟨p, H0, F, ρ, _, f, r, q, fun d v F' H' x hv hq => ?_⟩
  cases d with
  | bool b =>
    cases hv
    cases b with
    | false => exact ⟨false, rfl, p, H0, F', ρ, Qd, x.fit f, r.ext x, hq, fun d v F2 H2 x2 v2 q2 => k d v F2 H2 (x.trans f x2) v2 q2⟩
    | true => exact ⟨true, rfl, k _ _ F' H' x (.bl true) hq⟩
  | _ => exact hq.elim
theorem de_not (ha : DE X a ta) : DE X (.UnaryOp .Not a pos) (dNotV ta) := by
  refine PE.wk (pe_not ha) fun σ H Q ⟨p, H0, F, ρ, Qd, f, r, q, k⟩ => ?_
  refine ⟨p, H0, F, ρ, _, f, r, q, fun d v F' H' x hv hq => ?_⟩
  cases d with
  | bool b => cases hv; exact ⟨b, rfl, k _ _ F' H' x (.bl _) hq⟩
  | _ => exact hq.elim
theorem de_if (hc : DC X c tA) (ha : DE X a ta) (hb : DE X b tb) : DE X (.IfExp c a b pos) (dIf tA ta tb) := by
  refine PE.wk (pe_ifExp hc ha hb) fun σ H Q ⟨p, H0, F, ρ, Qd, f, r, q, k⟩ => ?_
  refine ⟨p, H0, F, ρ, _, f, r, q, fun b F' H' x hq => ?_⟩
  have go : ∀ {t : DT}, t ρ Qd → tD (kw X) t σ H' Q := fun h => ⟨p, H0, F', ρ, Qd, x.fit f, r.ext x, h, fun d v F2 H2 x2 v2 q2 => k d v F2 H2 (x.trans f x2) v2 q2⟩
  cases b with
  | true => exact go hq
  | false => exact go hq
/-- a op b op' c -/
def dChain (g g' : G2) (ta tb tc : DT) : DT := fun ρ Q => ta ρ fun d => tb ρ fun e => g d e fun z => match z with
  | .bool true => tc ρ fun y => g' e y Q
  | .bool false => Q (.bool false)
  | _ => False
variable {tc : DT}
theorem dchain_run {k : Kw} {r r' : R2} {g g' : G2} (hr : R2D k r g) (hr' : R2D k r' g') {σ : Sg} {H : Hp} {Q : VK} (h : tD k (dChain g g' ta tb tc) σ H Q) : tChain r r' (tD k ta) (tD k tb) (tD k tc) σ H Q := by
  obtain ⟨p, H0, F, ρ, Qd, f, rp, t, q⟩ := h
  refine ⟨p, H0, F, ρ, _, f, rp, t, fun d x F1 H1 e1 r1 q1 => ?_⟩
  refine ⟨p, H0, F1, ρ, _, e1.fit f, rp.ext e1, q1, fun e y F2 H2 e2 r2 q2 => ?_⟩
  have f1 := e1.fit f
  have f2 := e2.fit f1
  refine hr p F2 H2 x y d e _ _ f2 (r1.mono e2.ff) r2 q2 fun z v F3 H3 e3 r3 q3 => ?_
  cases z with
  | bool b =>
    cases r3
    have e13 := (e1.trans f e2).trans f e3
    cases b with
    | true =>
      refine ⟨true, rfl, ?_⟩
      rw [if_pos rfl]
      refine ⟨p, H0, F3, ρ, _, e3.fit f2, rp.ext e13, q3, fun w u F4 H4 e4 r4 q4 => ?_⟩
      exact hr' p F4 H4 y u e w Qd Q (e4.fit (e3.fit f2)) ((r2.mono e3.ff).mono e4.ff) r4 q4 fun c z F5 H5 e5 r5 q5 => q c z F5 H5 ((e13.trans f e4).trans f e5) r5 q5
    | false =>
      refine ⟨false, rfl, ?_⟩
      rw [if_neg Bool.false_ne_true]
      exact q _ _ F3 H3 e13 (.bl false) q3
  | _ => exact q3.elim
theorem de_chain {op op' : CmpOp} {g g' : G2} (ho : OpD X (compareOp op) g) (ho' : OpD X (compareOp op') g') (ha : DE X a ta) (hb : DE X b tb) (hc : DE X c tc) (hm : lastMarks [op, op'] [b, c] = false := by with_unfolding_all rfl) : DE X (.Compare a [op, op'] [b, c] pos) (dChain g g' ta tb tc) := by
  obtain ⟨r, h1, h2⟩ := ho
  obtain ⟨r', h1', h2'⟩ := ho'
  exact PE.wk (pe_chain h1 h1' ha hb hc hm) fun σ H Q h => dchain_run h2 h2' h
theorem dc_chain {op op' : CmpOp} {g g' : G2} (ho : OpD X (compareOp op) g) (ho' : OpD X (compareOp op') g') (ha : DE X a ta) (hb : DE X b tb) (hc : DE X c tc) (hm : lastMarks [op, op'] [b, c] = false := by with_unfolding_all rfl) : DC X (.Compare a [op, op'] [b, c] pos) (dTr (dChain g g' ta tb tc)) := by
  obtain ⟨r, h1, h2⟩ := ho
  obtain ⟨r', h1', h2'⟩ := ho'
  refine PT.wk (pt_chain h1 h1' ha hb hc hm) fun σ H Q ⟨p, H0, F, ρ, Qd, f, rp, q, k⟩ => ?_
  refine dchain_run h2 h2' ⟨p, H0, F, ρ, _, f, rp, q, fun d v F' H' x hv hq => ?_⟩
  cases d with
  | bool b => cases hv; exact ⟨b, rfl, k b F' H' x hq⟩
  | _ => exact hq.elim
end

/-! ### argument lists, displays -/
abbrev DL_ := Rho → (List PyData → Prop) → Prop
def tDL (k : Kw) (t : DL_) : TA := fun σ H Q => ∃ p H0 F ρ, ∃ Qd : List PyData → Prop, Fit p F H ∧ Rep k p H0 F H σ ρ ∧ t ρ Qd ∧ ∀ ds vs F' H', Ext p F H F' H' → DVs k.K F' vs ds → Qd ds → Q vs H'
abbrev DLs (X : Cx) (es : List Expr) (t : DL_) : Prop := PA X es (tDL (kw X) t)
def dNil : DL_ := fun _ Q => Q []
def dCons (t : DT) (u : DL_) : DL_ := fun ρ Q => t ρ fun d => u ρ fun ds => Q (d :: ds)
section
variable {X : Cx} {pos : Pos} {e : Expr} {es : List Expr} {t : DT} {u : DL_}
theorem dl_nil : DLs X [] dNil := PA.wk pa_nil fun σ H Q ⟨p, H0, F, ρ, Qd, f, r, q, k⟩ => k [] [] F H (Ext.refl f.sub) .nil q
theorem dl_cons (h : DE X e t) (hr : DLs X es u) (he : starEach (e :: es) X.env = (false, eval e X.env) :: starEach es X.env := by rfl) : DLs X (e :: es) (dCons t u) := by
  refine PA.wk (pa_cons h hr he) fun σ H Q ⟨p, H0, F, ρ, Qd, f, r, q, k⟩ => ?_
  refine ⟨p, H0, F, ρ, _, f, r, q, fun d v F' H' x hv hq => ?_⟩
  exact ⟨p, H0, F', ρ, _, x.fit f, r.ext x, hq, fun ds vs F2 H2 x2 v2 q2 => k (d :: ds) (v :: vs) F2 H2 (x.trans f x2) (.cons (hv.mono x2.ff) v2) q2⟩
def dTup (u : DL_) : DT := fun ρ Q => u ρ fun ds => ds.length ≤ 16777216 ∧ Q (.tuple ds)
theorem de_tup {x1} (h : DLs X es u) : DE X (.Tuple es x1 pos) (dTup u) := by
  refine PE.wk (pe_tup h) fun σ H Q ⟨p, H0, F, ρ, Qd, f, r, q, k⟩ => ?_
  refine ⟨p, H0, F, ρ, _, f, r, q, fun ds vs F' H' x hv hq => ⟨by rw [sl_eq, hv.length]; exact hq.1, fun a ha => ?_⟩⟩
  have y := Ext.new (x.fit f) (o := .tup vs) ha
  exact k _ _ _ _ (x.trans f y) (.tup (.of upd_same) (hv.mono y.ff)) hq.2
def dLst (u : DL_) : DT := fun ρ Q => u ρ fun ds => ds.length ≤ 16777216 ∧ Q (.list ds)
theorem de_lst (h : DLs X es u) : DE X (.List es pos) (dLst u) := by
  refine PE.wk (pe_lst h) fun σ H Q ⟨p, H0, F, ρ, Qd, f, r, q, k⟩ => ?_
  refine ⟨p, H0, F, ρ, _, f, r, q, fun ds vs F' H' x hv hq => ⟨by rw [sl_eq, hv.length]; exact hq.1, fun a ha => ?_⟩⟩
  have y := Ext.new (x.fit f) (o := .lst vs) ha
  exact k _ _ _ _ (x.trans f y) (.lst (.of upd_same) (hv.mono y.ff)) hq.2
/-- arguments of defs -/
def dANil : DAT := fun _ Q => Q []
def dACons (t : DT) (u : DAT) : DAT := fun ρ Q => t ρ fun d => u ρ fun as => Q (.d d :: as)
def dAPot (i : Nat) (u : DAT) : DAT := fun ρ Q => match ρ[i]? with | some .pot => u ρ fun as => Q (.p :: as) | _ => False
variable {w : DAT}
theorem da_nil : DA X [] dANil := PA.wk pa_nil fun σ H Q ⟨p, H0, F, ρ, Qd, f, r, q, k⟩ => k [] [] F H (Ext.refl f.sub) .nil q
theorem da_cons (h : DE X e t) (hr : DA X es w) (he : starEach (e :: es) X.env = (false, eval e X.env) :: starEach es X.env := by rfl) : DA X (e :: es) (dACons t w) := by
  refine PA.wk (pa_cons h hr he) fun σ H Q ⟨p, H0, F, ρ, Qd, f, r, q, k⟩ => ?_
  refine ⟨p, H0, F, ρ, _, f, r, q, fun d v F' H' x hv hq => ?_⟩
  exact ⟨p, H0, F', ρ, _, x.fit f, r.ext x, hq, fun ds vs F2 H2 x2 v2 q2 => k (.d d :: ds) (v :: vs) F2 H2 (x.trans f x2) (.cons (.d (hv.mono x2.ff)) v2) q2⟩
theorem da_pot (i : Nat) {x : Str} {p' : Pos} (hr : DA X es w) (hN : X.N[i]? = some x := by rfl) (hv : Vis X.env.scope x := by first | exact Or.inl rfl | exact Or.inr (Or.inl rfl) | exact Or.inr (Or.inr rfl)) (hd : (x == ("__debug__" : Str)) = false := by decide)
    (hcd : (x == ("__classdict__" : Str)) = false := by decide) (he : starEach (.Name x p' :: es) X.env = (false, eval (.Name x p') X.env) :: starEach es X.env := by rfl) : DA X (.Name x p' :: es) (dAPot i w) := by
  refine PA.wk (pa_cons (pe_var hN hv hd hcd) hr he) fun σ H Q ⟨p, H0, F, ρ, Qd, f, r, q, k⟩ => ?_
  unfold dAPot at q
  split at q
  · rename_i e
    obtain ⟨a, ea, hp⟩ := r.all i _ e
    exact ⟨.ref a, slv_of ea, p, H0, F, ρ, _, f, r, q, fun ds vs F2 H2 x2 v2 q2 => k (.p :: ds) (.ref a :: vs) F2 H2 x2 (.cons (.p hp) v2) q2⟩
  · exact q.elim
end

/-! ### built-ins by name -/
abbrev G1 := List PyData → (PyData → Prop) → Prop
def CallD (X : Cx) (f : Value) (g : G1) : Prop := ∃ r, CallR X f r ∧ ∀ p F H vs ds (Qd : PyData → Prop) (Q : VK), Fit p F H → DVs X.K F vs ds → g ds Qd → (∀ c z F' H', Ext p F H F' H' → DV X.K F' z c → Qd c → Q z H') → r vs H Q
def dCB (g : G1) (u : DL_) : DT := fun ρ Q => u ρ fun ds => g ds Q
section
variable {X : Cx} {pos p : Pos} {x : Str} {e : Expr} {es : List Expr} {u : DL_} {g : G1} {id T : String}
theorem dcb_run {k : Kw} {r : List V → Hp → VK → Prop} (h2 : ∀ p F H vs ds (Qd : PyData → Prop) (Q : VK), Fit p F H → DVs k.K F vs ds → g ds Qd → (∀ c z F' H', Ext p F H F' H' → DV k.K F' z c → Qd c → Q z H') → r vs H Q) {σ : Sg} {H : Hp} {Q : VK}
    (h : tD k (dCB g u) σ H Q) : tCB r (tDL k u) σ H Q := by
  obtain ⟨p, H0, F, ρ, Qd, f, rp, q, k'⟩ := h
  refine ⟨p, H0, F, ρ, _, f, rp, q, fun ds vs F' H' x hv hq => ?_⟩
  exact h2 p F' H' vs ds Qd Q (x.fit f) hv hq fun c z F2 H2 x2 v2 q2 => k' c z F2 H2 (x.trans f x2) v2 q2
theorem de_callB (hc : CallD X (.builtin id) g) (hm : X.mg x = none) (ha : DLs X (e :: es) u) (hg : Gl X x := by rfl) (hv : bootBuiltins x = some (.builtin id) := by decide +kernel) (hn : x ≠ "__name__" := by decide) (hdb : (x == ("__debug__" : Str)) = false := by decide)
    (he : starEach (e :: es) X.env = (false, eval e X.env) :: starEach es X.env := by rfl) (hpl : (backTo pos (starEach es X.env)).any (·.1) = false := by rfl) : DE X (.Call (.Name x p) (e :: es) [] pos) (dCB g u) := by
  obtain ⟨r, h1, h2⟩ := hc
  exact PE.wk (pe_callB h1 hg hm hv ha hn hdb he hpl) fun σ H Q h => dcb_run h2 h
theorem de_callTy (hc : CallD X (.type T) g) (hm : X.mg x = none) (ha : DLs X (e :: es) u) (hg : Gl X x := by rfl) (hv : bootBuiltins x = some (.type T) := by decide +kernel) (hn : x ≠ "__name__" := by decide) (hdb : (x == ("__debug__" : Str)) = false := by decide)
    (he : starEach (e :: es) X.env = (false, eval e X.env) :: starEach es X.env := by rfl) (hpl : (backTo pos (starEach es X.env)).any (·.1) = false := by rfl) : DE X (.Call (.Name x p) (e :: es) [] pos) (dCB g u) := by
  obtain ⟨r, h1, h2⟩ := hc
  exact PE.wk (pe_callTy h1 hg hm hv ha hn hdb he hpl) fun σ H Q h => dcb_run h2 h
theorem de_callBfun (hc : CallD X (.builtin id) g) (hm : X.mg x = some (.builtin id)) (ha : DLs X (e :: es) u) (hg : Gl X x := by rfl) (hdb : (x == ("__debug__" : Str)) = false := by decide)
    (he : starEach (e :: es) X.env = (false, eval e X.env) :: starEach es X.env := by rfl) (hpl : (backTo pos (starEach es X.env)).any (·.1) = false := by rfl) : DE X (.Call (.Name x p) (e :: es) [] pos) (dCB g u) := by
  obtain ⟨r, h1, h2⟩ := hc
  exact PE.wk (pe_callBfun h1 hg hm ha hdb he hpl) fun σ H Q h => dcb_run h2 h
end
end DL


namespace DL
open PySem PySem.Spec PyProof.Rows L2

/-! ### isinstance -/
def isInt : PyData → Bool | .int _ => true | .bool _ => true | _ => false
def isBool : PyData → Bool | .bool _ => true | _ => false
def isStr : PyData → Bool | .str _ => true | _ => false
def isList : PyData → Bool | .list _ => true | _ => false
def isTup : PyData → Bool | .tuple _ => true | _ => false
def tyName : PyData → String
  | .none => "NoneType"
  | .bool _ => "bool"
  | .int _ => "int"
  | .str _ => "str"
  | .list _ => "list"
  | .tuple _ => "tuple"
  | .dict _ => "dict"
theorem kit_int : ∀ d : PyData, kitB (tyName d) "int" = some (isInt d)
  | .none => (by decide +kernel : kitB "NoneType" "int" = some false)
  | .bool _ => (by decide +kernel : kitB "bool" "int" = some true)
  | .int _ => (by decide +kernel : kitB "int" "int" = some true)
  | .str _ => (by decide +kernel : kitB "str" "int" = some false)
  | .list _ => (by decide +kernel : kitB "list" "int" = some false)
  | .tuple _ => (by decide +kernel : kitB "tuple" "int" = some false)
  | .dict _ => (by decide +kernel : kitB "dict" "int" = some false)
theorem kit_bool : ∀ d : PyData, kitB (tyName d) "bool" = some (isBool d)
  | .none => (by decide +kernel : kitB "NoneType" "bool" = some false)
  | .bool _ => (by decide +kernel : kitB "bool" "bool" = some true)
  | .int _ => (by decide +kernel : kitB "int" "bool" = some false)
  | .str _ => (by decide +kernel : kitB "str" "bool" = some false)
  | .list _ => (by decide +kernel : kitB "list" "bool" = some false)
  | .tuple _ => (by decide +kernel : kitB "tuple" "bool" = some false)
  | .dict _ => (by decide +kernel : kitB "dict" "bool" = some false)
theorem kit_str : ∀ d : PyData, kitB (tyName d) "str" = some (isStr d)
  | .none => (by decide +kernel : kitB "NoneType" "str" = some false)
  | .bool _ => (by decide +kernel : kitB "bool" "str" = some false)
  | .int _ => (by decide +kernel : kitB "int" "str" = some false)
  | .str _ => (by decide +kernel : kitB "str" "str" = some true)
  | .list _ => (by decide +kernel : kitB "list" "str" = some false)
  | .tuple _ => (by decide +kernel : kitB "tuple" "str" = some false)
  | .dict _ => (by decide +kernel : kitB "dict" "str" = some false)
theorem kit_list : ∀ d : PyData, kitB (tyName d) "list" = some (isList d)
  | .none => (by decide +kernel : kitB "NoneType" "list" = some false)
  | .bool _ => (by decide +kernel : kitB "bool" "list" = some false)
  | .int _ => (by decide +kernel : kitB "int" "list" = some false)
  | .str _ => (by decide +kernel : kitB "str" "list" = some false)
  | .list _ => (by decide +kernel : kitB "list" "list" = some true)
  | .tuple _ => (by decide +kernel : kitB "tuple" "list" = some false)
  | .dict _ => (by decide +kernel : kitB "dict" "list" = some false)
theorem kit_tuple : ∀ d : PyData, kitB (tyName d) "tuple" = some (isTup d)
  | .none => (by decide +kernel : kitB "NoneType" "tuple" = some false)
  | .bool _ => (by decide +kernel : kitB "bool" "tuple" = some false)
  | .int _ => (by decide +kernel : kitB "int" "tuple" = some false)
  | .str _ => (by decide +kernel : kitB "str" "tuple" = some false)
  | .list _ => (by decide +kernel : kitB "list" "tuple" = some false)
  | .tuple _ => (by decide +kernel : kitB "tuple" "tuple" = some true)
  | .dict _ => (by decide +kernel : kitB "dict" "tuple" = some false)
theorem tyY_of {K : PySem.W.Frag} {F H : Hp} {v : V} {d : PyData} (e : Same F H) (h : DV K F v d) : TyY K H v (.type (tyName d)) := by
  cases h with
  | dcT h _ _ _ => exact .d (e _ _ h)
  | non => exact .x (.base .non)
  | bl b => exact .x (.base (.bl b))
  | int i => exact .x (.base (.int i))
  | str x => exact .x (.base (.str x))
  | lst h _ =>
    rcases h with (h | ⟨o, h⟩) | ⟨o, its, n, h1, h2, _⟩
    · exact .x (.base (.lst (e _ _ h)))
    · exact .x (.base (.frz (e _ _ h)))
    · exact .x (.kList h1 h2)
  | tup h _ =>
    rcases h with (h | ⟨o, h⟩) | ⟨o, its, n, h1, h2, _⟩
    · exact .x (.base (.tup (e _ _ h)))
    · exact .x (.fTuple (e _ _ h))
    · exact .x (.kTuple h1 h2)
  | dct h => exact .x (.base (.dK (e _ _ h)))
def dIsi (c : PyData → Bool) (t : DT) : DT := fun ρ Q => t ρ fun d => Q (.bool (c d))
section
variable {X : Cx} {pos p p2 tpos : Pos} {e : Expr} {t : DT}
theorem de_isi {n : String} {T : Str} {c : PyData → Bool} (hk : ∀ d, kitB (tyName d) n = some (c d)) (hm : X.mg "isinstance" = none) (hT : X.mg T = none) (he : DE X e t) (hb : bootBuiltins T = some (.type n) := by decide +kernel) (hg : Gl X "isinstance" := by rfl) (hgT : Gl X T := by rfl)
    (hn : T ≠ "__name__" := by decide) (hd : (T == ("__debug__" : Str)) = false := by decide)
    (hs1 : starEach [e, .Name T p2] X.env = (false, eval e X.env) :: starEach [.Name T p2] X.env := by rfl) (hs2 : starEach [.Name T p2] X.env = (false, eval (.Name T p2) X.env) :: starEach [] X.env := by rfl)
    (hpl : (backTo pos (starEach [.Name T p2] X.env)).any (·.1) = false := by rfl) :
    DE X (.Call (.Name "isinstance" p) [e, .Name T p2] [] pos) (dIsi c t) := by
  refine PE.wk (pe_callB call_isiY hg hm PyProof.Rows.boot_isinstance (pa_cons he (pa_cons (pe_bltn (v := .ty n) hgT hT hb rfl hn hd) pa_nil hs2) hs1) (by decide) (by decide) hs1 hpl) fun σ H Q ⟨q, H0, F, ρ, Qd, f, r, w, k⟩ => ?_
  refine ⟨q, H0, F, ρ, _, f, r, w, fun d v F' H' x hv hq => ?_⟩
  exact ⟨v, .ty n, .type (tyName d), .type n, c d, rfl, .ty n, tyY_of x.fh hv, kit_ty (hk d), k _ _ F' H' x (.bl _) hq⟩
theorem kitAny2 {K : PySem.W.Frag} {a b c : String} {r s : Bool} (h1 : kitB a b = some r) (h2 : kitB a c = some s) : PySem.W.kitAny K (.type a) [.type b, .type c] = some (r || s) := by
  have e1 := kit_ty (K := K) h1
  have e2 := kit_ty (K := K) h2
  unfold PySem.W.kitAny PySem.W.kitAny PySem.W.kitAny
  rw [e1, e2]
  cases r <;> cases s <;> rfl
/-- isinstance(x, (S, T)) -/
theorem de_isi2 {n1 n2 : String} {T1 T2 : Str} {c1 c2 : PyData → Bool} {k0 : Nat} {p3 : Pos} (hk1 : ∀ d, kitB (tyName d) n1 = some (c1 d)) (hk2 : ∀ d, kitB (tyName d) n2 = some (c2 d)) (hm : X.mg "isinstance" = none) (hT1 : X.mg T1 = none) (hT2 : X.mg T2 = none) (he : DE X e t)
    (hb1 : bootBuiltins T1 = some (.type n1) := by decide +kernel) (hb2 : bootBuiltins T2 = some (.type n2) := by decide +kernel) (hg : Gl X "isinstance" := by rfl) (hgT1 : Gl X T1 := by rfl) (hgT2 : Gl X T2 := by rfl)
    (hn1 : T1 ≠ "__name__" := by decide) (hd1 : (T1 == ("__debug__" : Str)) = false := by decide) (hn2 : T2 ≠ "__name__" := by decide) (hd2 : (T2 == ("__debug__" : Str)) = false := by decide)
    (hs1 : starEach [e, .Tuple [.Name T1 p2, .Name T2 p3] k0 tpos] X.env = (false, eval e X.env) :: starEach [.Tuple [.Name T1 p2, .Name T2 p3] k0 tpos] X.env := by rfl)
    (hs2 : starEach [.Tuple [.Name T1 p2, .Name T2 p3] k0 tpos] X.env = (false, eval (.Tuple [.Name T1 p2, .Name T2 p3] k0 tpos) X.env) :: starEach [] X.env := by rfl)
    (hs3 : starEach [.Name T1 p2, .Name T2 p3] X.env = (false, eval (.Name T1 p2) X.env) :: starEach [.Name T2 p3] X.env := by rfl) (hs4 : starEach [.Name T2 p3] X.env = (false, eval (.Name T2 p3) X.env) :: starEach [] X.env := by rfl)
    (hpl : (backTo pos (starEach [.Tuple [.Name T1 p2, .Name T2 p3] k0 tpos] X.env)).any (·.1) = false := by rfl) :
    DE X (.Call (.Name "isinstance" p) [e, .Tuple [.Name T1 p2, .Name T2 p3] k0 tpos] [] pos) (dIsi (fun d => c1 d || c2 d) t) := by
  refine PE.wk (pe_callB call_isiTY hg hm PyProof.Rows.boot_isinstance (pa_cons he (pa_cons (pe_tup (pa_cons (pe_bltn (v := .ty n1) hgT1 hT1 hb1 rfl hn1 hd1) (pa_cons (pe_bltn (v := .ty n2) hgT2 hT2 hb2 rfl hn2 hd2) pa_nil hs4) hs3)) pa_nil hs2) hs1) (by decide) (by decide) hs1 hpl)
    fun σ H Q ⟨q, H0, F, ρ, Qd, f, r, w, k⟩ => ?_
  refine ⟨q, H0, F, ρ, _, f, r, w, fun d v F' H' x hv hq => ?_⟩
  refine ⟨by rw [sl_eq]; show 2 ≤ 16777216; decide, fun a ha => ?_⟩
  have f' := x.fit f
  have j := Ext.junk f' (o := .tup [.ty n1, .ty n2]) ha
  exact ⟨v, a, [.ty n1, .ty n2], .type (tyName d), [.type n1, .type n2], c1 d || c2 d, rfl, upd_same, .cons (.ty n1) (.cons (.ty n2) .nil), tyY_of j.fh hv, kitAny2 (hk1 d) (hk2 d), k _ _ F' _ (x.trans f j) (.bl _) hq⟩
end

/-! ### len, all, any, sum, abs, int, max, min, tuple, list -/
def gLen : G1 := fun ds Q => match ds with
  | [.list xs] => Q (.int xs.length)
  | [.tuple xs] => Q (.int xs.length)
  | [.str x] => x.length ≤ 16777216 ∧ Q (.int x.length)
  | _ => False
section
variable {X : Cx}
theorem cd_len : CallD X (.builtin "len") gLen := by
  refine ⟨_, call_len, fun p F H vs ds Qd Q f hv hg q => ?_⟩
  unfold gLen at hg
  split at hg
  · cases hv with
    | cons h t =>
      cases t
      cases h with
      | lst h1 h2 => exact ⟨_, _, rfl, .inl ⟨_, sql_same f.sub h1, rfl⟩, by rw [h2.length]; exact q _ _ F H (Ext.refl f.sub) (.int _) hg⟩
  · cases hv with
    | cons h t =>
      cases t
      cases h with
      | tup h1 h2 => exact ⟨_, _, rfl, .inr ⟨_, sqt_same f.sub h1, rfl⟩, by rw [h2.length]; exact q _ _ F H (Ext.refl f.sub) (.int _) hg⟩
  · cases hv with
    | cons h t =>
      cases t
      cases h
      exact ⟨_, _, rfl, ⟨by rw [sl_eq]; exact hg.1, rfl⟩, q _ _ F H (Ext.refl f.sub) (.int _) hg.2⟩
  · exact hg.elim
def boolsOf : List PyData → Option (List Bool)
  | [] => some []
  | .bool i :: r => (boolsOf r).map (i :: ·)
  | _ :: _ => none
theorem boolsOf_eq : ∀ {ds : List PyData} {ns : List Bool}, boolsOf ds = some ns → ds = ns.map PyData.bool
  | [], _, h => by simp [boolsOf] at h; subst h; rfl
  | .bool i :: r, ns, h => by
    simp only [boolsOf, Option.map_eq_some_iff] at h
    obtain ⟨a, h1, rfl⟩ := h
    rw [boolsOf_eq h1]; rfl
theorem boolsOf_map (ns : List Bool) : boolsOf (ns.map PyData.bool) = some ns := by
  induction ns with
  | nil => rfl
  | cons n ns ih => simp [boolsOf, ih]
def gAll (anyb : Bool) : G1 := fun ds Q => match ds with
  | [.list xs] => ∃ bs : List Bool, xs = bs.map PyData.bool ∧ Q (.bool (if anyb then bs.any id else bs.all id))
  | _ => False
theorem cd_all (hc : X.calm = true) : CallD X (.builtin "all") (gAll false) := by
  refine ⟨_, cr_all hc, fun p F H vs ds Qd Q f hv hg q => ?_⟩
  unfold gAll at hg
  split at hg
  · obtain ⟨bs, rfl, hq⟩ := hg
    cases hv with
    | cons h t =>
      cases t
      cases h with
      | lst h1 h2 =>
        have e := h2.bools
        subst e
        exact ⟨_, bs, rfl, sql_same f.sub h1, q _ _ F H (Ext.refl f.sub) (.bl _) hq⟩
  · exact hg.elim
theorem cd_any (hc : X.calm = true) : CallD X (.builtin "any") (gAll true) := by
  refine ⟨_, cr_any hc, fun p F H vs ds Qd Q f hv hg q => ?_⟩
  unfold gAll at hg
  split at hg
  · obtain ⟨bs, rfl, hq⟩ := hg
    cases hv with
    | cons h t =>
      cases t
      cases h with
      | lst h1 h2 =>
        have e := h2.bools
        subst e
        exact ⟨_, bs, rfl, sql_same f.sub h1, q _ _ F H (Ext.refl f.sub) (.bl _) hq⟩
  · exact hg.elim
def gSum : G1 := fun ds Q => match ds with
  | [.list xs] => ∃ ns : List Int, xs = ns.map PyData.int ∧ Q (.int ns.sum)
  | _ => False
theorem cd_sum (hc : X.calm = true) : CallD X (.builtin "sum") gSum := by
  refine ⟨_, cr_sum hc, fun p F H vs ds Qd Q f hv hg q => ?_⟩
  unfold gSum at hg
  split at hg
  · obtain ⟨bs, rfl, hq⟩ := hg
    cases hv with
    | cons h t =>
      cases t
      cases h with
      | lst h1 h2 =>
        have e := h2.ints
        subst e
        exact ⟨_, bs, rfl, sql_same f.sub h1, q _ _ F H (Ext.refl f.sub) (.int _) hq⟩
  · exact hg.elim
def gAbs : G1 := fun ds Q => match ds with
  | [.int i] => Q (.int (if i < 0 then -i else i))
  | _ => False
theorem cd_abs : CallD X (.builtin "abs") gAbs := by
  refine ⟨_, call_abs, fun p F H vs ds Qd Q f hv hg q => ?_⟩
  unfold gAbs at hg
  split at hg
  · cases hv with
    | cons h t => cases t; cases h; exact ⟨_, rfl, q _ _ F H (Ext.refl f.sub) (.int _) hg⟩
  · exact hg.elim
def gInt : G1 := fun ds Q => match ds with
  | [.int i] => Q (.int i)
  | [.bool b] => Q (.int (if b then 1 else 0))
  | _ => False
theorem cd_int : CallD X (.type "int") gInt := by
  refine ⟨_, call_int1, fun p F H vs ds Qd Q f hv hg q => ?_⟩
  unfold gInt at hg
  split at hg
  · cases hv with
    | cons h t => cases t; cases h; exact .inl ⟨_, rfl, q _ _ F H (Ext.refl f.sub) (.int _) hg⟩
  · cases hv with
    | cons h t => cases t; cases h; exact .inr ⟨_, rfl, q _ _ F H (Ext.refl f.sub) (.int _) hg⟩
  · exact hg.elim
def gTwo (g : Int → Int → Int) : G1 := fun ds Q => match ds with
  | [.int i, .int j] => Q (.int (g i j))
  | _ => False
theorem cd_max (hc : X.calm = true) : CallD X (.builtin "max") (gTwo fun i j => if j > i then j else i) := by
  refine ⟨_, call_max2 hc, fun p F H vs ds Qd Q f hv hg q => ?_⟩
  unfold gTwo at hg
  split at hg
  · cases hv with
    | cons h t => cases h; cases t with | cons h t => cases t; cases h; exact ⟨_, _, rfl, q _ _ F H (Ext.refl f.sub) (.int _) hg⟩
  · exact hg.elim
theorem cd_min (hc : X.calm = true) : CallD X (.builtin "min") (gTwo fun i j => if j < i then j else i) := by
  refine ⟨_, call_min2 hc, fun p F H vs ds Qd Q f hv hg q => ?_⟩
  unfold gTwo at hg
  split at hg
  · cases hv with
    | cons h t => cases h; cases t with | cons h t => cases t; cases h; exact ⟨_, _, rfl, q _ _ F H (Ext.refl f.sub) (.int _) hg⟩
  · exact hg.elim
def gTuple : G1 := fun ds Q => match ds with
  | [.list xs] => Q (.tuple xs)
  | [.tuple xs] => Q (.tuple xs)
  | _ => False
theorem cd_tuple : CallD X (.type "tuple") gTuple := by
  refine ⟨_, call_tuple_of, fun p F H vs ds Qd Q f hv hg q => ?_⟩
  unfold gTuple at hg
  split at hg
  · cases hv with
    | cons h t =>
      cases t
      cases h with
      | @lst a ys _ h1 h2 =>
        refine ⟨_, _, rfl, .inl ⟨sql_same f.sub h1, fun l hl => ?_⟩⟩
        have x := Ext.new f (o := .tup ys) hl
        exact q _ _ _ _ x (.tup (.of upd_same) (h2.mono x.ff)) hg
  · cases hv with
    | cons h t =>
      cases t
      cases h with
      | tup h1 h2 => exact ⟨_, _, rfl, .inr ⟨sqt_same f.sub h1, q _ _ F H (Ext.refl f.sub) (.tup h1 h2) hg⟩⟩
  · exact hg.elim
def gList : G1 := fun ds Q => match ds with
  | [.list xs] => Q (.list xs)
  | [.tuple xs] => Q (.list xs)
  | _ => False
theorem cd_list : CallD X (.type "list") gList := by
  refine ⟨_, call_list_of, fun p F H vs ds Qd Q f hv hg q => ?_⟩
  unfold gList at hg
  split at hg
  · cases hv with
    | cons h t =>
      cases t
      cases h with
      | @lst a ys _ h1 h2 =>
        refine ⟨_, _, rfl, .inl (sql_same f.sub h1), fun l hl => ?_⟩
        have x := Ext.new f (o := .lst ys) hl
        exact q _ _ _ _ x (.lst (.of upd_same) (h2.mono x.ff)) hg
  · cases hv with
    | cons h t =>
      cases t
      cases h with
      | @tup a ys _ h1 h2 =>
        refine ⟨_, _, rfl, .inr (sqt_same f.sub h1), fun l hl => ?_⟩
        have x := Ext.new f (o := .lst ys) hl
        exact q _ _ _ _ x (.lst (.of upd_same) (h2.mono x.ff)) hg
  · exact hg.elim

/-! ### repr -/
def gRepr : G1 := fun ds Q => match ds with
  | [.list xs] => ((!(PyData.list xs).hasDict && (PyData.list xs).showable && decide ((PyData.list xs).depth ≤ 40) && decide ((PyData.list xs).shown.length ≤ 16777216)) = true) ∧ Q (.str (PyData.shown (.list xs)))
  | [.tuple xs] => ((!(PyData.tuple xs).hasDict && (PyData.tuple xs).showable && decide ((PyData.tuple xs).depth ≤ 40) && decide ((PyData.tuple xs).shown.length ≤ 16777216)) = true) ∧ Q (.str (PyData.shown (.tuple xs)))
  | _ => False
def rReprD (K : PySem.W.Frag) : List V → Hp → VK → Prop := fun vs H Q => ∃ (a : Addr) (d : PyData), vs = [.ref a] ∧ Dp K H (.ref a) d ∧ d.hasDict = false ∧ d.showable = true ∧ d.depth ≤ 40 ∧ d.shown.length ≤ sizeLine ∧ Q (.str d.shown) H
theorem cr_reprD (hg : X.A.guards = some []) (hu : X.A.units + 64 < cLine) : CallR X (.builtin "repr") (rReprD X.K) := by
  intro pins s σ H vs us Q I r h
  obtain ⟨a, d, rfl, hd, hn, hs, hdp, hsz, q⟩ := h
  cases r with
  | cons ru rt =>
    cases rt
    cases ru
    obtain ⟨as, rd⟩ := Dp.reads I d _ _ hd rfl
    exact repr_of_reads' rd hs (PyData.noDict_hsm hn) hg (by omega) (fun _ _ e => e) (fun h' u tk hk => ⟨.str d.shown, H, I.kept hk, ⟨u, rfl⟩, q⟩) hsz
theorem cd_repr (hg : X.A.guards = some []) (hu : X.A.units + 64 < cLine) : CallD X (.builtin "repr") gRepr := by
  refine ⟨_, cr_reprD hg hu, fun p F H vs ds Qd Q f hv hg q => ?_⟩
  have go : ∀ {v : V} {d : PyData}, DV X.K F v d → (∃ a, v = .ref a) → ((!d.hasDict && d.showable && decide (d.depth ≤ 40) && decide (d.shown.length ≤ 16777216)) = true) ∧ Qd (.str d.shown) → rReprD X.K [v] H Q := by
    intro v d h ⟨a, ea⟩ ⟨h1, h2⟩
    subst ea
    simp only [Bool.and_eq_true, Bool.not_eq_true', decide_eq_true_eq] at h1
    exact ⟨a, d, rfl, (h.mono f.sub).dp h1.1.1.1, h1.1.1.1, h1.1.1.2, h1.1.2, by rw [sl_eq]; exact h1.2, q _ _ F H (Ext.refl f.sub) (.str _) h2⟩
  unfold gRepr at hg
  split at hg
  · cases hv with
    | cons h t => cases t; cases h with | lst h1 h2 => exact go (.lst h1 h2) ⟨_, rfl⟩ hg
  · cases hv with
    | cons h t => cases t; cases h with | tup h1 h2 => exact go (.tup h1 h2) ⟨_, rfl⟩ hg
  · exact hg.elim
end

/-! ### items, slices -/
def gIx : G2 := fun d e Q => match d, e with
  | .list xs, .int i => match atI xs i with | some z => Q z | none => False
  | .tuple xs, .int i => match atI xs i with | some z => Q z | none => False
  | .str x, .int i => x.length ≤ 16777216 ∧ (match atI x.cps.toList i with | some c => Q (.str ⟨#[c]⟩) | none => False)
  | _, _ => False
theorem atI_rel {K : PySem.W.Frag} {F : Hp} {vs : List V} {ds : List PyData} {i : Int} {z : PyData} (h : DVs K F vs ds) (e : atI ds i = some z) : ∃ v, atI vs i = some v ∧ DV K F v z := by
  unfold atI at e ⊢
  rw [h.length]
  cases q : ixN ds.length i with
  | none => rw [q] at e; cases e
  | some j =>
    rw [q] at e
    exact h.get e
section
variable {X : Cx} {pos p2 : Pos} {a b : Expr} {ta tb : DT} {lo hi : Option Expr}
theorem de_ix (ha : DE X a ta) (hb : DE X b tb) (hs : PlainIx b := by exact fun _ _ => rfl) : DE X (.Subscript a b pos) (dOp gIx ta tb) := by
  refine PE.wk (pe_ix ix_seq ha hb hs) fun σ H Q h => dop_run (r := rIx X.K) ?_ h
  intro p F H x y d e Qd Q f rx ry hg q
  unfold gIx at hg
  split at hg
  · rename_i xs i
    split at hg
    · rename_i z ez
      cases rx with
      | lst h1 h2 =>
        cases ry
        obtain ⟨v, e1, r1⟩ := atI_rel h2 ez
        exact .inl ⟨_, _, _, _, rfl, rfl, sql_same f.sub h1, e1, q _ _ F H (Ext.refl f.sub) r1 hg⟩
    · exact hg.elim
  · rename_i xs i
    split at hg
    · rename_i z ez
      cases rx with
      | tup h1 h2 =>
        cases ry
        obtain ⟨v, e1, r1⟩ := atI_rel h2 ez
        exact .inr (.inl ⟨_, _, _, _, rfl, rfl, sqt_same f.sub h1, e1, q _ _ F H (Ext.refl f.sub) r1 hg⟩)
    · exact hg.elim
  · obtain ⟨hl, hg⟩ := hg
    split at hg
    · rename_i z ez
      cases rx; cases ry
      exact .inr (.inr ⟨_, _, _, rfl, rfl, by rw [sl_eq]; exact hl, ez, q _ _ F H (Ext.refl f.sub) (.str _) hg⟩)
    · exact hg.elim
  · exact hg.elim
/-- a part of a slice -/
abbrev DO_ := Rho → (Option Int → Prop) → Prop
def tDO (k : Kw) (t : DO_) : TO := fun σ H Q => ∃ p H0 F ρ, ∃ Qd : Option Int → Prop, Fit p F H ∧ Rep k p H0 F H σ ρ ∧ t ρ Qd ∧ ∀ o F' H', Ext p F H F' H' → Qd o → Q o H'
abbrev DOp (X : Cx) (e : Option Expr) (t : DO_) : Prop := PO X e (tDO (kw X) t)
theorem PO.wk {e : Option Expr} {t u : TO} (h : PO X e t) (w : ∀ σ H Q, u σ H Q → t σ H Q) : PO X e u := by
  constructor
  intro pins s σ H Q I q
  exact h.run pins s σ H Q I (w σ H Q q)
def dNoPart : DO_ := fun _ Q => Q none
def dPart (t : DT) : DO_ := fun ρ Q => t ρ fun d => match d with | .int i => Q (some i) | _ => False
theorem do_none : DOp X none dNoPart := PO.wk po_none fun σ H Q ⟨p, H0, F, ρ, Qd, f, r, w, k⟩ => k none F H (Ext.refl f.sub) w
theorem do_some (h : DE X a ta) : DOp X (some a) (dPart ta) := by
  refine PO.wk (po_some h) fun σ H Q ⟨p, H0, F, ρ, Qd, f, r, w, k⟩ => ?_
  refine ⟨p, H0, F, ρ, _, f, r, w, fun d v F' H' x hv hq => ?_⟩
  cases d with
  | int i => cases hv; exact ⟨i, rfl, k _ F' H' x hq⟩
  | _ => exact hq.elim
def cutD (xs : List PyData) (lo hi : Option Int) : List PyData := (xs.drop (HT.sIx xs.length 0 lo)).take (HT.sIx xs.length xs.length hi - HT.sIx xs.length 0 lo)
def gSl (d : PyData) (lo hi : Option Int) (Q : PyData → Prop) : Prop := match d with
  | .list xs => Q (.list (cutD xs lo hi))
  | .tuple xs => Q (.tuple (cutD xs lo hi))
  | .str x => x.length ≤ 16777216 ∧ Q (.str (cutS x lo hi))
  | _ => False
def dSl (t : DT) (l h : DO_) : DT := fun ρ Q => t ρ fun d => l ρ fun lo => h ρ fun hi => gSl d lo hi Q
theorem cut_rel {K : PySem.W.Frag} {F : Hp} {vs : List V} {ds : List PyData} (h : DVs K F vs ds) (lo hi : Option Int) : DVs K F (cutV vs lo hi) (cutD ds lo hi) := by
  unfold cutV cutD
  rw [h.length]
  exact (h.drop _).take _
theorem cutD_all {xs : List PyData} {lo hi : Option Int} (h : HT.sIx xs.length 0 lo = 0 ∧ HT.sIx xs.length xs.length hi = xs.length) : cutD xs lo hi = xs := by
  unfold cutD
  rw [h.1, h.2]
  simp
theorem SlR.or {r r' : V → Option Int → Option Int → Hp → VK → Prop} (h : SlR X r) (h' : SlR X r') : SlR X fun x lo hi H Q => r x lo hi H Q ∨ r' x lo hi H Q := by
  intro pins s σ H x v vl vu lo hi sl Q I rx hs pl pu q
  rcases q with q | q
  · exact h pins s σ H x v vl vu lo hi sl Q I rx hs pl pu q
  · exact h' pins s σ H x v vl vu lo hi sl Q I rx hs pl pu q
theorem de_slice {tl th : DO_} (he : DE X a ta) (hl : DOp X lo tl) (hh : DOp X hi th) : DE X (.Subscript a (.Slice lo hi none p2) pos) (dSl ta tl th) := by
  refine PE.wk (pe_slice (SlR.or sl_list (SlR.or sl_tupA sl_str)) he hl hh) fun σ H Q ⟨p, H0, F, ρ, Qd, f, r, w, k⟩ => ?_
  refine ⟨p, H0, F, ρ, _, f, r, w, fun d v F1 H1 x1 hv q1 => ?_⟩
  refine ⟨p, H0, F1, ρ, _, x1.fit f, r.ext x1, q1, fun lo F2 H2 x2 q2 => ?_⟩
  have x12 := x1.trans f x2
  refine ⟨p, H0, F2, ρ, _, x12.fit f, r.ext x12, q2, fun hi F3 H3 x3 q3 => ?_⟩
  have x13 := x12.trans f x3
  have f3 := x13.fit f
  have hv3 := (hv.mono x2.ff).mono x3.ff
  unfold gSl at q3
  split at q3
  · cases hv3 with
    | @lst b ys _ h1 h2 =>
      refine .inl ⟨_, _, rfl, sql_same f3.sub h1, fun l hl => ?_⟩
      have y := Ext.new f3 (o := .lst (cutV ys lo hi)) hl
      exact k _ _ _ _ (x13.trans f y) (.lst (.of upd_same) ((cut_rel h2 lo hi).mono y.ff)) q3
  · rename_i xs
    cases hv3 with
    | @tup b ys _ h1 h2 =>
      refine .inr (.inl ⟨_, _, rfl, sqt_same f3.sub h1, fun hw => ?_, fun hw l hl => ?_⟩)
      · rw [h2.length] at hw
        rw [cutD_all hw] at q3
        exact k _ _ _ _ x13 (.tup h1 h2) q3
      · have y := Ext.new f3 (o := .tup (cutV ys lo hi)) hl
        exact k _ _ _ _ (x13.trans f y) (.tup (.of upd_same) ((cut_rel h2 lo hi).mono y.ff)) q3
  · cases hv3
    exact .inr (.inr ⟨_, rfl, by rw [sl_eq]; exact q3.1, k _ _ _ _ x13 (.str _) q3.2⟩)
  · exact q3.elim
end
end DL


namespace DL
open PySem PySem.Spec PyProof.Rows L2

/-! ### promises of defs -/
structure Rm (k : Nat) (A : Around) : Prop where
  r : Room k A
  g : A.guards = some []
theorem Rm.mono {j k : Nat} {A : Around} (m : Rm k A) (h : j ≤ k) : Rm j A := ⟨m.r.mono h, m.g⟩
theorem Rm.u {k : Nat} {A : Around} (m : Rm k A) : A.units + 64 < cLine := m.r.units
theorem Rm.u0 {k : Nat} {A : Around} (m : Rm k A) : A.units < cLine := m.r.units0
theorem Rm.u5 {k : Nat} {A : Around} (m : Rm k A) : A.units + 65 < cLine := by have := m.r.un; omega
structure FnG (P : Program) (w : World) (K : PySem.W.Frag) (mg : Str → Option Value) (base : Heap) (CX : CXT) (k : Nat) (f : Addr) (fd : FuncData) (ps : List Str) (sp : Sp) : Prop where
  len : ∀ vs H Q E, sp vs H Q E → vs.length = ps.length
  run : ∀ (A : Around) (outer : List Env) (s : Shared) (H : Hp) (args : Args) (us : List Value) (vs : List V) (Q : VK) (E : XK), Rm k A → Env0 P w K mg base A outer s H → BindsTo s fd args (ps.zip us) → Vals vs us → sp vs H Q E →
    codeAny (model P w) A (.call (.ref f) args) (CR CX outer P w H s Q E) s
theorem FnG.mono {P : Program} {w : World} {K : PySem.W.Frag} {mg : Str → Option Value} {base : Heap} {CX : CXT} {j k : Nat} {f : Addr} {fd : FuncData} {ps : List Str} {sp : Sp} (F : FnG P w K mg base CX j f fd ps sp) (h : j ≤ k) : FnG P w K mg base CX k f fd ps sp :=
  ⟨F.len, fun A outer s H args us vs Q E hr => F.run A outer s H args us vs Q E (hr.mono h)⟩

/-- a def by its body -/
theorem fn_body {CX : CXT} {P : Program} {w : World} {K : PySem.W.Frag} {mg : Str → Option Value} {base : Heap} {k : Nat} {x qual : Str} {st : Stmt} {f : Addr} {fd : FuncData} {N ps : List Str} {sp : Sp} (F : Fun K x qual st f fd) (S : FnScope N ps (defScope st))
    (len : ∀ vs H Q E, sp vs H Q E → vs.length = ps.length)
    (hb : ∀ (cdv : Value) (A : Around) (outer : List Env) (s : Shared) (H : Hp) (vs : List V) (Q : VK) (E : XK), Rm k (A.deeper (envOfC qual (defScope st) s.heap.objs.size f cdv)) → sp vs H Q E →
      ∃ t, PSs (cxOf CX P w K mg base N qual (defScope st) f cdv A outer s H E) (defBody st) t ∧ t { nx := fun _ H' => Q .non H', rt := Q } (start N vs) H) : FnG P w K mg base CX (k + 1) f fd ps sp := by
  obtain ⟨oc, od, kV, doc, pm, an, cdv, ct, osl, rfl, lk, hcd⟩ := F.ex
  refine ⟨len, fun A outer s H args us vs Q E hr e0 bind r hsp => ?_⟩
  have hl := len _ _ _ _ hsp
  have KX : K.In s.heap := e0.mod.kin.keeps fun b o e => (e0.bs b o e).1
  have lim := e0.mod.nolimit.keeps fun b o e => (e0.bs b o e).1
  have kinds : ∀ y ∈ ps.zip us, (defScope st).names.lookup y.1 = some .local ∨ ((defScope st).names.lookup y.1 = some .cell ∧ ((cellsFrom (s.heap.objs.size + 1) (defScope st).names []).lookup y.1).isSome = true) := by
    rintro ⟨n, v⟩ hy
    cases S.par n (List.of_mem_zip hy).1 with
    | inl q => exact .inl q
    | inr q => exact .inr ⟨q, PySem.W.cellsFrom_some _ _ _ (.inl q)⟩
  refine codeAny_call_function hr.r.depth (KX _ _ lk) rfl S.co S.gen rfl (PySem.W.codeRec_of KX hcd) (bind _ _ _ _ (wpAny_newFunctionEnv_cells S.kind kinds ?_))
  rintro env rfl s1 x
  refine ⟨lim.keeps x.toInCall.keep, ?_⟩
  refine codeAny_func ?_
  obtain ⟨t, ht, hq⟩ := hb cdv A outer s H vs Q E ⟨hr.r.deeper _, hr.g⟩ hsp
  have I := inv_start (CX := CX) (E := E) S hr.r.hd e0 hl r x
  refine wpAny_mono (ht.run [] s1 (start N vs) H _ I hq) ?_ fun _ _ z => z
  intro fl s' hs
  cases fl with
  | ret u =>
    obtain ⟨v, σ', H', J, rv, q⟩ := hs
    exact ⟨v, H', J.os, J.bare, J.base, J.hok, rv, q⟩
  | next =>
    obtain ⟨σ', H', J, q⟩ := hs
    exact ⟨V.non, H', J.os, J.bare, J.base, J.hok, rfl, q⟩
  | brk =>
    obtain ⟨_, _, _, q⟩ := hs
    exact q.elim
  | cont =>
    obtain ⟨_, _, _, q⟩ := hs
    exact q.elim

section
variable {X : Cx} {CX : CXT} {k : Nat} {f : Addr} {fd : FuncData} {ps ks : List Str} {sp : Sp} {E : XK}
theorem run_g {pins : List (Addr × Obj)} {σ : Sg} {H : Hp} {s : Shared} {Q : VK} {args : Args} {us : List Value} {vs : List V} (F : FnG X.prog X.w X.K X.mg X.base CX k f fd ps sp) (hr : Rm k X.A) (hb : us.length = ps.length → BindsTo s fd args (ps.zip us)) (hx : Passes CX X E)
    (I : Inv X pins σ H s) (r : Vals vs us) (h : sp vs H Q E) : codeAny (model X.prog X.w) X.A (.call (.ref f) args) (fun r s' => match r with | .ok (.ret u) => EP X pins σ Q u s' | .ok _ => False | .error e => X.xe e s') s := by
  refine codeAny_mono (F.run X.A X.stack s H args us vs Q E hr I.env0 (hb (by rw [← r.length]; exact F.len _ _ _ _ h)) r h) ?_
  intro r s' hq
  cases r with
  | error e => exact hx pins σ H s e s' I hq
  | ok fl =>
    cases fl with
    | ret u => exact I.after hq
    | next => exact hq.elim
    | brk => exact hq.elim
    | cont => exact hq.elim
end

/-- what a def gives: data; or an own list of data, new -/
inductive Res where
  | dat (d : PyData)
  | own (ds : List PyData)
def Res.data : Res → PyData
  | .dat d => d
  | .own ds => .list ds
abbrev DF := List Arg → (Res → Prop) → Prop
def ResOk (k : Kw) (p : Option Addr) (H0 F H : Hp) (v : V) : Res → Prop
  | .dat d => DV k.K F v d
  | .own ds => ∃ a vs, v = .ref a ∧ H0 a = none ∧ F a = none ∧ p ≠ some a ∧ H a = some (.lst vs) ∧ DVs k.K F vs ds
/-- no exception leaves: what a def makes of its arguments -/
def spD (k : Kw) (df : DF) : Sp := fun vs H Q _ => ∃ p F as, ∃ Qd : Res → Prop, Fit p F H ∧ ArgsOk k p F vs as ∧ df as Qd ∧ ∀ r v F' H', Ext p F H F' H' → ResOk k p H F' H' v r → Qd r → Q v H'

/-- an own list comes to rest -/
theorem ResOk.rest {k : Kw} {p : Option Addr} {F H F' H' : Hp} {v : V} {r : Res} (x : Ext p F H F' H') (h : ResOk k p H F' H' v r) : ∃ F2, Ext p F H F2 H' ∧ DV k.K F2 v r.data := by
  cases r with
  | dat d => exact ⟨F', x, h⟩
  | own ds =>
    obtain ⟨a, vs, rfl, h0, n, hp, e, r⟩ := h
    exact ⟨upd F' a (.lst vs), x.rest h0 e n, .lst (.of upd_same) (r.mono (same_upd n))⟩

/-! ### calls of defs -/
def dCall (df : DF) (t : DAT) : DT := fun ρ Q => t ρ fun as => df as fun r => Q r.data
abbrev DOT := Rho → (List PyData → Prop) → Prop
def tO (k : Kw) (t : DOT) : TE := fun σ H Q => ∃ p H0 F ρ, ∃ Qd : List PyData → Prop, Fit p F H ∧ Rep k p H0 F H σ ρ ∧ t ρ Qd ∧ ∀ ds v F' H', Ext p F H F' H' → ResOk k p H F' H' v (.own ds) → Qd ds → Q v H'
/-- an expression that gives a new list that nobody else has -/
abbrev DO (X : Cx) (e : Expr) (t : DOT) : Prop := PE X e (tO (kw X) t)
def oData (t : DOT) : DT := fun ρ Q => t ρ fun ds => Q (.list ds)
section
variable {X : Cx} {CX : CXT} {k : Nat} {f : Addr} {fd : FuncData} {ps ks : List Str} {df : DF} {x : Str} {p pos : Pos} {e : Expr} {es : List Expr} {kws : List Keyword} {t tk : DAT}
theorem DO.de {e : Expr} {t : DOT} (h : DO X e t) : DE X e (oData t) := by
  refine PE.wk h fun σ H Q ⟨p, H0, F, ρ, Qd, f, r, w, k⟩ => ⟨p, H0, F, ρ, _, f, r, w, fun ds v F' H' x hv hq => ?_⟩
  obtain ⟨F2, x2, v2⟩ := hv.rest x
  exact k _ v F2 H' x2 v2 hq
theorem spd_run {σ : Sg} {H : Hp} {Q : VK} {E : XK} {kk : Kw} {g : List V → List V} {t : DAT} {G : List Arg → List Arg} (hG : ∀ {p F vs as}, ArgsOk kk p F vs as → ArgsOk kk p F (g vs) (G as)) (h : tD kk (fun ρ Q => t ρ fun as => df (G as) fun r => Q r.data) σ H Q) :
    tDA kk t σ H fun vs H1 => spD kk df (g vs) H1 Q E := by
  obtain ⟨p, H0, F, ρ, Qd, f, r, w, k⟩ := h
  refine ⟨p, H0, F, ρ, _, f, r, w, fun as vs F' H' x hv hq => ?_⟩
  refine ⟨p, F', G as, _, x.fit f, hG hv, hq, fun r v F2 H2 x2 v2 q2 => ?_⟩
  obtain ⟨F3, x3, v3⟩ := v2.rest x2
  exact k _ v F3 H2 (x.trans f x3) v3 q2
theorem de_call (F : FnG X.prog X.w X.K X.mg X.base CX k f fd ps (spD (kw X) df)) (hr : Rm k X.A) (hm : X.mg x = some (.ref f)) (hk : PySem.W.keepIn X.K (.ref f) = true) (hb : Binds X.K fd ps []) (hx : Passes CX X E0) (ha : DA X (e :: es) t)
    (hg : Gl X x := by rfl) (hdb : (x == ("__debug__" : Str)) = false := by decide) (he : starEach (e :: es) X.env = (false, eval e X.env) :: starEach es X.env := by rfl) (hpl : (backTo pos (starEach es X.env)).any (·.1) = false := by rfl) :
    DE X (.Call (.Name x p) (e :: es) [] pos) (dCall df t) := by
  refine ⟨fun pins s σ H Q I h => ?_⟩
  have h2 := spd_run (kk := kw X) (g := id) (G := id) (E := E0) (fun z => z) h
  refine wpAny_Call_Name_kw (ld_glob I hg hm ?_ hdb)
  refine PySem.W.callWith_K (h₀ := X.base) I.ok.mod.kin hk (thn (ha.run pos pins s σ H _ I h2) fun us s1 ⟨vs, H1, I1, r, q⟩ => ⟨I1.kIn, ?_⟩) he hpl
  have bb : us.length = ps.length → BindsTo s1 fd ⟨us, []⟩ (ps.zip us) := fun hl => by
    have := hb s1 us I1.kIn (by rw [List.append_nil]; exact hl)
    rw [List.append_nil] at this
    exact this
  refine wpAny_call (codeAny_mono (run_g F hr bb hx I1 r q) fun r s' hq => ?_)
  cases r with
  | error e => exact hq
  | ok fl =>
    cases fl with
    | ret u => exact hq
    | next => exact hq.elim
    | brk => exact hq.elim
    | cont => exact hq.elim
/-- some of a list, by their places -/
def ro {α : Type} (q : List Nat) (l : List α) : List α := q.filterMap fun i => l[i]?
theorem ro_vals (q : List Nat) {vs : List V} {us : List Value} (r : Vals vs us) : Vals (ro q vs) (ro q us) := by
  induction q with
  | nil => exact .nil
  | cons i q ih =>
    unfold ro at ih ⊢
    cases e : vs[i]? with
    | none => rw [List.filterMap_cons, List.filterMap_cons, e, r.none_of e]; exact ih
    | some v =>
      obtain ⟨u, hu, ru⟩ := r.get e
      rw [List.filterMap_cons, List.filterMap_cons, e, hu]
      exact .cons ru ih
theorem ArgsOk.get {k : Kw} {p : Option Addr} {F : Hp} : ∀ {vs : List V} {as : List Arg} {i : Nat}, ArgsOk k p F vs as → (vs[i]? = none ∧ as[i]? = none) ∨ ∃ v a, vs[i]? = some v ∧ as[i]? = some a ∧ ArgOk k p F v a
  | _, _, i, .nil => .inl ⟨by simp, by simp⟩
  | _, _, 0, .cons h _ => .inr ⟨_, _, rfl, rfl, h⟩
  | _, _, i + 1, .cons _ t => by
    rcases ArgsOk.get (i := i) t with ⟨h1, h2⟩ | ⟨v, a, h1, h2, h3⟩
    · exact .inl ⟨by simpa using h1, by simpa using h2⟩
    · exact .inr ⟨v, a, by simpa using h1, by simpa using h2, h3⟩
theorem ro_args (q : List Nat) {kk : Kw} {p : Option Addr} {F : Hp} {vs : List V} {as : List Arg} (r : ArgsOk kk p F vs as) : ArgsOk kk p F (ro q vs) (ro q as) := by
  induction q with
  | nil => exact .nil
  | cons i q ih =>
    unfold ro at ih ⊢
    rcases r.get (i := i) with ⟨h1, h2⟩ | ⟨v, a, h1, h2, h3⟩
    · rw [List.filterMap_cons, List.filterMap_cons, h1, h2]; exact ih
    · rw [List.filterMap_cons, List.filterMap_cons, h1, h2]; exact .cons h3 ih
/-- f(name = v, ..): q puts the values in the parameters' order -/
def KB (fd : FuncData) (ps ks : List Str) (q : List Nat) : Prop := ∀ ws : List Value, ws.length = ks.length → bindArgs fd ⟨[], ks.zip ws⟩ = pure (ps.zip (ro q ws))
abbrev DKw (X : Cx) (kws : List Keyword) (t : DAT) : Prop := PK X kws (tDA (kw X) t)
theorem PK.wk {t u : TA} (h : PK X kws t) (w : ∀ σ H Q, u σ H Q → t σ H Q) : PK X kws u := ⟨fun pos pins s σ H Q I q => h.run pos pins s σ H Q I (w σ H Q q)⟩
theorem dk_nil : DKw X [] dANil := PK.wk pk_nil fun σ H Q ⟨p, H0, F, ρ, Qd, f, r, q, k⟩ => k [] [] F H (Ext.refl f.sub) .nil q
theorem dk_cons {nm : Option Str} {kpos : Pos} {e : Expr} {te : DT} (ha : DE X e te) (hr : DKw X kws tk) : DKw X (⟨nm, e, kpos⟩ :: kws) (dACons te tk) := by
  refine PK.wk (pk_cons ha hr) fun σ H Q ⟨p, H0, F, ρ, Qd, f, r, q, k⟩ => ?_
  refine ⟨p, H0, F, ρ, _, f, r, q, fun d v F' H' x hv hq => ?_⟩
  exact ⟨p, H0, F', ρ, _, x.fit f, r.ext x, hq, fun ds vs F2 H2 x2 v2 q2 => k (.d d :: ds) (v :: vs) F2 H2 (x.trans f x2) (.cons (.d (hv.mono x2.ff)) v2) q2⟩
def dCallK (df : DF) (q : List Nat) (n : Nat) (t : DAT) : DT := fun ρ Q => t ρ fun as => as.length = n ∧ df (ro q as) fun r => Q r.data
theorem spdk_run {σ : Sg} {H : Hp} {Q : VK} {E : XK} {kk : Kw} {q : List Nat} {n : Nat} {t : DAT} (h : tD kk (dCallK df q n t) σ H Q) : tDA kk t σ H fun vs H1 => vs.length = n ∧ spD kk df (ro q vs) H1 Q E := by
  obtain ⟨p, H0, F, ρ, Qd, f, r, w, k⟩ := h
  refine ⟨p, H0, F, ρ, _, f, r, w, fun as vs F' H' x hv hq => ⟨by rw [hv.length]; exact hq.1, ?_⟩⟩
  refine ⟨p, F', ro q as, _, x.fit f, ro_args q hv, hq.2, fun r v F2 H2 x2 v2 q2 => ?_⟩
  obtain ⟨F3, x3, v3⟩ := v2.rest x2
  exact k _ v F3 H2 (x.trans f x3) v3 q2
theorem de_callK {q : List Nat} (F : FnG X.prog X.w X.K X.mg X.base CX k f fd ps (spD (kw X) df)) (hr : Rm k X.A) (hm : X.mg x = some (.ref f)) (hk : PySem.W.keepIn X.K (.ref f) = true) (hb : KB fd ps ks q) (hx : Passes CX X E0) (ha : DKw X kws tk)
    (hall : (backToKw pos (keywordEach kws X.env)).all (·.1.isSome) = true := by rfl) (hks : (backToKw pos (keywordEach kws X.env)).filterMap (·.1) = ks := by rfl)
    (hg : Gl X x := by rfl) (hdb : (x == ("__debug__" : Str)) = false := by decide) (hpl : ((backTo pos (starEach [] X.env)).any (·.1) || (backToKw pos (keywordEach kws X.env)).any (·.1.isNone)) = false := by rfl) :
    DE X (.Call (.Name x p) [] kws pos) (dCallK df q ks.length tk) := by
  refine ⟨fun pins s σ H Q I h => ?_⟩
  have h2 := spdk_run (kk := kw X) (E := E0) h
  refine wpAny_Call_Name_kw (ld_glob I hg hm ?_ hdb)
  refine PySem.W.callWith_KW0 (h₀ := X.base) I.ok.mod.kin hk hall (thn (ha.run pos pins s σ H _ I h2) fun us s1 ⟨vs, H1, I1, r, hl, z⟩ => ⟨I1.kIn, ?_⟩) hpl
  rw [hks]
  have lu : us.length = ks.length := by rw [← r.length]; exact hl
  have bb : (ro q us).length = ps.length → BindsTo s1 fd ⟨[], ks.zip us⟩ (ps.zip (ro q us)) := fun _ => .of_eq (hb us lu)
  refine wpAny_call (codeAny_mono (run_g F hr bb hx I1 (ro_vals q r) z) fun r s' hq => ?_)
  cases r with
  | error e => exact hq
  | ok fl =>
    cases fl with
    | ret u => exact hq
    | next => exact hq.elim
    | brk => exact hq.elim
    | cont => exact hq.elim
end
end DL


namespace DL
open PySem PySem.Spec PyProof.Rows L2

/-! ### statements -/
structure DEnds where
  nx : Rho → Prop
  rt : Res → Prop
  bk : Rho → Prop := fun _ => False
  ct : Rho → Prop := fun _ => False
abbrev DS := DEnds → Rho → Prop
/-- what is wanted over data leads to what is wanted: F0, H0 the entry; F has what came to rest so far -/
structure Conts (k : Kw) (p : Option Addr) (H0 F0 F : Hp) (Dd : DEnds) (D : Ends) : Prop where
  nx : ∀ σ' F' H' ρ', Same F F' → Ext p F0 H0 F' H' → Rep k p H0 F' H' σ' ρ' → Dd.nx ρ' → D.nx σ' H'
  bk : ∀ σ' F' H' ρ', Same F F' → Ext p F0 H0 F' H' → Rep k p H0 F' H' σ' ρ' → Dd.bk ρ' → D.bk σ' H'
  ct : ∀ σ' F' H' ρ', Same F F' → Ext p F0 H0 F' H' → Rep k p H0 F' H' σ' ρ' → Dd.ct ρ' → D.ct σ' H'
  rt : ∀ r v F' H', Ext p F0 H0 F' H' → ResOk k p H0 F' H' v r → Dd.rt r → D.rt v H'
theorem Conts.mono {k : Kw} {p : Option Addr} {H0 F0 F F' : Hp} {Dd : DEnds} {D : Ends} (c : Conts k p H0 F0 F Dd D) (e : Same F F') : Conts k p H0 F0 F' Dd D :=
  ⟨fun σ' F2 H' ρ' s => c.nx σ' F2 H' ρ' (e.trans s), fun σ' F2 H' ρ' s => c.bk σ' F2 H' ρ' (e.trans s), fun σ' F2 H' ρ' s => c.ct σ' F2 H' ρ' (e.trans s), c.rt⟩
def tDS (k : Kw) (t : DS) : TS := fun D σ H => ∃ p H0 F0 F ρ, ∃ Dd : DEnds, Fit p F0 H0 ∧ Ext p F0 H0 F H ∧ Rep k p H0 F H σ ρ ∧ t Dd ρ ∧ Conts k p H0 F0 F Dd D
abbrev DP (X : Cx) (st : Stmt) (t : DS) : Prop := PS X st (tDS (kw X) t)
abbrev DPs (X : Cx) (sts : List Stmt) (t : DS) : Prop := PSs X sts (tDS (kw X) t)
theorem PS.wk {X : Cx} {st : Stmt} {t u : TS} (h : PS X st t) (w : ∀ D σ H, u D σ H → t D σ H) : PS X st u := ⟨fun pins s σ H D I q => h.run pins s σ H D I (w D σ H q)⟩
theorem PSs.wk {X : Cx} {st : List Stmt} {t u : TS} (h : PSs X st t) (w : ∀ D σ H, u D σ H → t D σ H) : PSs X st u := ⟨fun pins s σ H D I q => h.run pins s σ H D I (w D σ H q)⟩

section
variable {p : Option Addr} {F0 H0 F H F' H' : Hp}
/-- what is new to H is new to the entry -/
theorem Ext.new0 (f : Fit p F0 H0) (x : Ext p F0 H0 F H) {a : Addr} (h : H a = none) : H0 a = none ∧ p ≠ some a := by
  have np := (x.fit f).ne h
  refine ⟨?_, np⟩
  cases q : H0 a with
  | none => rfl
  | some o => rw [x.hh a o np q] at h; cases h
theorem ResOk.back {k : Kw} {v : V} {r : Res} (f : Fit p F0 H0) (x : Ext p F0 H0 F H) (h : ResOk k p H F' H' v r) : ResOk k p H0 F' H' v r := by
  cases r with
  | dat d => exact h
  | own ds =>
    obtain ⟨a, vs, e, n, r⟩ := h
    exact ⟨a, vs, e, (x.new0 f n).1, r⟩
end

def dNext : DS := fun D ρ => D.nx ρ
def dSeq (t u : DS) : DS := fun D ρ => t { D with nx := u D } ρ
section
variable {X : Cx} {st : Stmt} {rest a b : List Stmt} {t u : DS} {e c : Expr} {te : DT} {to : DOT} {tc : DTT} {pos : Pos}
theorem dss_nil : DPs X [] dNext := PSs.wk pss_nil fun D σ H ⟨p, H0, F0, F, ρ, Dd, f, x, r, q, k⟩ => k.nx σ F H ρ (Same.refl _) x r q
theorem dss_one (h : DP X st t) : DPs X [st] t := pss_one h
theorem dss_cons (h : DP X st t) (hr : DPs X rest u) : DPs X (st :: rest) (dSeq t u) := by
  refine PSs.wk (pss_cons h hr) fun D σ H ⟨p, H0, F0, F, ρ, Dd, f, x, r, q, k⟩ => ?_
  refine ⟨p, H0, F0, F, ρ, { Dd with nx := u Dd }, f, x, r, q, ?_⟩
  exact ⟨fun σ' F' H' ρ' s x' r' q' => ⟨p, H0, F0, F', ρ', Dd, f, x', r', q', k.mono s⟩, k.bk, k.ct, k.rt⟩
def dBreak : DS := fun D ρ => D.bk ρ
def dCont : DS := fun D ρ => D.ct ρ
theorem ds_pass : DP X (.Pass pos) dNext := PS.wk ps_pass fun D σ H ⟨p, H0, F0, F, ρ, Dd, f, x, r, q, k⟩ => k.nx σ F H ρ (Same.refl _) x r q
theorem ds_break : DP X (.Break pos) dBreak := PS.wk ps_break fun D σ H ⟨p, H0, F0, F, ρ, Dd, f, x, r, q, k⟩ => k.bk σ F H ρ (Same.refl _) x r q
theorem ds_cont : DP X (.Continue pos) dCont := PS.wk ps_continue fun D σ H ⟨p, H0, F0, F, ρ, Dd, f, x, r, q, k⟩ => k.ct σ F H ρ (Same.refl _) x r q
def dNever : DS := fun _ _ => False
theorem ds_never : DP X st dNever := PS.wk ps_never fun D σ H ⟨p, H0, F0, F, ρ, Dd, f, x, r, q, k⟩ => q
def dExpr (t : DT) : DS := fun D ρ => t ρ fun _ => D.nx ρ
theorem ds_expr (he : DE X e te) (hs : swapsWith e none pos.line X.env = pure false := by rfl) : DP X (.Expr e pos) (dExpr te) := by
  refine PS.wk (ps_expr he hs) fun D σ H ⟨p, H0, F0, F, ρ, Dd, f, x, r, q, k⟩ => ?_
  exact ⟨p, H0, F, ρ, _, x.fit f, r, q, fun d v F' H' y hv hq => k.nx σ F' H' ρ y.ff (x.trans f y) (r.ext y) hq⟩
def dRet (t : DT) : DS := fun D ρ => t ρ fun d => D.rt (.dat d)
theorem ds_ret (he : DE X e te) : DP X (.Return (some e) pos) (dRet te) := by
  refine PS.wk (ps_ret he) fun D σ H ⟨p, H0, F0, F, ρ, Dd, f, x, r, q, k⟩ => ?_
  exact ⟨p, H0, F, ρ, _, x.fit f, r, q, fun d v F' H' y hv hq => k.rt (.dat d) v F' H' (x.trans f y) hv hq⟩
def dRetO (t : DOT) : DS := fun D ρ => t ρ fun ds => D.rt (.own ds)
theorem ds_retO (he : DO X e to) : DP X (.Return (some e) pos) (dRetO to) := by
  refine PS.wk (ps_ret he) fun D σ H ⟨p, H0, F0, F, ρ, Dd, f, x, r, q, k⟩ => ?_
  exact ⟨p, H0, F, ρ, _, x.fit f, r, q, fun d v F' H' y hv hq => k.rt (.own d) v F' H' (x.trans f y) (hv.back f x) hq⟩
def dRetN : DS := fun D _ => D.rt (.dat .none)
theorem ds_retN : DP X (.Return none pos) dRetN := PS.wk ps_retN fun D σ H ⟨p, H0, F0, F, ρ, Dd, f, x, r, q, k⟩ => k.rt (.dat .none) .non F H x .non q
/-- return of an own list -/
def dRetOwn (i : Nat) : DS := fun D ρ => match ρ[i]? with | some (.own ds) => D.rt (.own ds) | _ => False
theorem ds_retOwn (i : Nat) {y : Str} {p' : Pos} (hN : X.N[i]? = some y := by rfl) (hv : Vis X.env.scope y := by first | exact Or.inl rfl | exact Or.inr (Or.inl rfl) | exact Or.inr (Or.inr rfl)) (hd : (y == ("__debug__" : Str)) = false := by decide)
    (hcd : (y == ("__classdict__" : Str)) = false := by decide) : DP X (.Return (some (.Name y p')) pos) (dRetOwn i) := by
  refine PS.wk (ps_ret (pe_var hN hv hd hcd)) fun D σ H ⟨p, H0, F0, F, ρ, Dd, f, x, r, q, k⟩ => ?_
  unfold dRetOwn at q
  split at q
  · rename_i ds e
    obtain ⟨a, vs, ea, h0, n, hp, eh, rv⟩ := r.all i _ e
    exact ⟨.ref a, slv_of ea, k.rt (.own ds) _ F H x ⟨a, vs, rfl, h0, n, hp, eh, rv⟩ q⟩
  · exact q.elim
def dIfS (c : DTT) (t u : DS) : DS := fun D ρ => c ρ fun b => match b with | true => t D ρ | false => u D ρ
theorem ds_if (hc : DC X c tc) (ha : DPs X a t) (hb : DPs X b u) : DP X (.If c a b pos) (dIfS tc t u) := by
  refine PS.wk (ps_if hc ha hb) fun D σ H ⟨p, H0, F0, F, ρ, Dd, f, x, r, q, k⟩ => ?_
  refine ⟨p, H0, F, ρ, _, x.fit f, r, q, fun b F' H' y hq => ?_⟩
  cases b with
  | true => exact ⟨p, H0, F0, F', ρ, Dd, f, x.trans f y, r.ext y, hq, k.mono y.ff⟩
  | false => exact ⟨p, H0, F0, F', ρ, Dd, f, x.trans f y, r.ext y, hq, k.mono y.ff⟩
def dSet (i : Nat) (t : DT) : DS := fun D ρ => t ρ fun d => D.nx (ρ.set i (.dat d))
theorem ds_set (i : Nat) {y : Str} {p' : Pos} (hN : X.N.Nodup) (he : DE X e te) (hi : X.N[i]? = some y := by rfl) (hx : Loc X.env.scope y := by first | exact Or.inl rfl | exact Or.inr rfl) (hs : swapsWith e (some (.Name y p')) pos.line X.env = pure false := by rfl)
    (hf : X.fn y = true ∨ X.env.scope.names.lookup y = some .local := by first | exact .inl rfl | exact .inr rfl) : DP X (.Assign [.Name y p'] e pos) (dSet i te) := by
  refine PS.wk (ps_set hN hi hx he hs hf) fun D σ H ⟨p, H0, F0, F, ρ, Dd, f, x, r, q, k⟩ => ?_
  refine ⟨p, H0, F, ρ, _, x.fit f, r, q, fun d v F' H' y hv hq => ?_⟩
  exact k.nx _ F' H' _ y.ff (x.trans f y) ((r.ext y).set i (some v) (sl := .dat d) ⟨v, rfl, hv⟩ (fun ds z => by cases z)) hq
/-- other own lists are elsewhere -/
theorem Rep.fresh {k : Kw} {p : Option Addr} {H0 F H : Hp} {σ : Sg} {ρ : Rho} (r : Rep k p H0 F H σ ρ) {a : Addr} (h : H a = none) (i : Nat) : ∀ j es, j ≠ i → ρ[j]? = some (.own es) → slv σ j ≠ some (.ref a) := by
  intro j es _ e z
  obtain ⟨b, vs, eb, _, _, _, hb, _⟩ := r.all j _ e
  rw [z] at eb
  cases eb
  rw [h] at hb; cases hb
def dOwn (i : Nat) (t : DOT) : DS := fun D ρ => t ρ fun ds => D.nx (ρ.set i (.own ds))
theorem ds_own (i : Nat) {y : Str} {p' : Pos} (hN : X.N.Nodup) (he : DO X e to) (hi : X.N[i]? = some y := by rfl) (hx : Loc X.env.scope y := by first | exact Or.inl rfl | exact Or.inr rfl) (hs : swapsWith e (some (.Name y p')) pos.line X.env = pure false := by rfl)
    (hf : X.fn y = true ∨ X.env.scope.names.lookup y = some .local := by first | exact .inl rfl | exact .inr rfl) : DP X (.Assign [.Name y p'] e pos) (dOwn i to) := by
  refine PS.wk (ps_set hN hi hx he hs hf) fun D σ H ⟨p, H0, F0, F, ρ, Dd, f, x, r, q, k⟩ => ?_
  refine ⟨p, H0, F, ρ, _, x.fit f, r, q, fun d v F' H' y hv hq => ?_⟩
  obtain ⟨a, vs, rfl, h0, n, hp, eh, rv⟩ := hv
  exact k.nx _ F' H' _ y.ff (x.trans f y) ((r.ext y).setOwn i (x.new0 f h0).1 n hp eh rv (r.fresh h0 i)) hq
end

/-! ### own lists changed -/
end DL
namespace DLT
open PySem
open Sem (wp)
open AutoSeq1
theorem list_extend_LL (l : Addr) (items : Array Value) (n : Nat) (b : Addr) (items2 : Array Value) (n2 : Nat) (dd2 : Option Addr) (sl2 : Array (Option Value)) (hc0 : ¬(!items.isEmpty && Builtin.List.listTooLong (items.size + items2.size)) = true) (hc1 : items.size ≤ sizeLine) (hs2 : items.size + items2.size ≤ sizeLine + 1 := by seq_fits) :
    Meets (Builtin.«list.extend» ⟨[.ref l, .ref b], []⟩) (fun _ R s => s.heap.get? l = some { cls := .type "list", dict := none, data := .seq items n, slots := #[] } ∧ s.heap.get? b = some { cls := .type "list", dict := dd2, data := .seq items2 n2, slots := sl2 } ∧ R (.ok (.ret Value.none)) { s with heap := s.heap.update l (Obj.mapSeq fun x => x ++ items2), toks := s.toks }) :=
  .of_wp fun prog w A R s h => by
    obtain ⟨hp, g, d, tk, os⟩ := s; obtain ⟨hl, hb, h⟩ := h; have f1 := idx_int; have f2 := sub_tuple_tuple; have f3 := sub_list_list; have f4 := sub_tuple_list; have f5 := sub_list_tuple;
    have hz' : (items ++ items2).size ≤ sizeLine + 1 := by rw [Array.size_append]; exact hs2
    wp_walk using (wpAny_updateSeq hl rfl (hz := hc1) (_hz' := hz')), wpAny_loadPart' hl, wpAny_loadPart' hb; exact ⟨_, rfl, h⟩
end DLT
namespace DL
open PySem PySem.Spec PyProof.Rows L2
section
variable {X : Cx}
def rExtL (K : PySem.W.Frag) : V → List V → Hp → VK → Prop := fun x vs H Q => ∃ l b xs zs, x = .ref l ∧ vs = [.ref b] ∧ H l = some (.lst xs) ∧ SqL K H b zs ∧ xs.length + zs.length ≤ sizeLine ∧ Q .non (upd H l (.lst (xs ++ zs)))
theorem mt_extL : MtM X "list.extend" (rExtL X.K) := by
  intro pins s σ H x vs v us Q I rx rv h
  obtain ⟨l, b, xs, zs, rfl, rfl, hH, hB, hz, q⟩ := h
  cases rx
  obtain ⟨u, rfl, ru⟩ := rv.one
  cases ru
  obtain ⟨z, its, n, r, hl, e⟩ := I.lstM hH
  obtain ⟨its2, r2, ⟨⟨cls2, dd2, data2, sl2⟩, n2, ho2, hc2, hdn2, hd2⟩, hl2⟩ := I.list hB
  simp only at hc2 hd2
  subst hc2 hd2
  have hl3 := r2.length
  have hsz : its.toArray.size + its2.toArray.size ≤ sizeLine := by rw [List.size_toArray, List.size_toArray]; omega
  have hlong : ¬ (!its.toArray.isEmpty && Builtin.List.listTooLong (its.toArray.size + its2.toArray.size)) = true := by
    rw [notLongL hsz, Bool.and_false]
    exact Bool.false_ne_true
  refine call_meets F.slot_list_extend ⟨_, e, rfl⟩ F.entry_list_extend (F.args_list_extend_2 _ _)
    (DLT.list_extend_LL l its.toArray n b its2.toArray n2 dd2 sl2 hlong (by rw [List.size_toArray]; omega) (by omega)) ⟨e, ho2, ?_⟩
  refine ⟨.non, _, I.lset (its' := its ++ its2) hH e (by simp) (r.append r2) ?_, rfl, q⟩
  rw [List.length_append]
  omega
end

section
variable {k : Kw} {p : Option Addr} {H0 F H : Hp} {σ : Sg} {ρ : Rho}
def noTmp (ρ : Rho) : Bool := ρ.all fun s => match s with | .tmp _ => false | _ => true
theorem Rep.write (r : Rep k p H0 F H σ ρ) {i : Nat} {ds ds' : List PyData} {a : Addr} {vs' : List V} (e : ρ[i]? = some (.own ds)) (ea : slv σ i = some (.ref a)) (hv : DVs k.K F vs' ds') (nt : noTmp ρ = true) :
    Rep k p H0 F (upd H a (.lst vs')) σ (ρ.set i (.own ds')) := by
  have hi : i < ρ.length := (List.getElem?_eq_some_iff.mp e).1
  obtain ⟨a', vs, ea', h0, n, hp, eh, rv⟩ := r.all i _ e
  rw [ea] at ea'
  cases ea'
  refine ⟨by simp [r.len], fun j s q => ?_, fun j l es es' b e1 e2 e3 e4 => ?_⟩
  · by_cases hj : i = j
    · subst hj
      rw [List.getElem?_set_self hi] at q
      cases q
      exact ⟨a, vs', ea, h0, n, hp, upd_same, hv⟩
    · rw [List.getElem?_set_ne hj] at q
      have hs := r.all j s q
      cases s with
      | emp => trivial
      | dat d => exact hs
      | own es =>
        obtain ⟨b, ws, eb, b0, bn, bp, bh, br⟩ := hs
        have nab : b ≠ a := fun z => hj (r.own i j ds es a e q ea (by rw [eb, z]))
        exact ⟨b, ws, eb, b0, bn, bp, by rw [upd_ne nab]; exact bh, br⟩
      | pot => exact hs
      | sett S =>
        obtain ⟨b, L, eb, bp, bh, br⟩ := hs
        have nab : b ≠ a := fun z => by rw [z, eh] at bh; cases bh
        exact ⟨b, L, eb, bp, by rw [upd_ne nab]; exact bh, br⟩
      | dic kds =>
        obtain ⟨b, L, ds, eb, ⟨b0, bn, bp, bh⟩, br⟩ := hs
        have nab : b ≠ a := fun z => by rw [z, eh] at bh; cases bh
        exact ⟨b, L, ds, eb, ⟨b0, bn, bp, by rw [upd_ne nab]; exact bh⟩, br⟩
      | rdic kds =>
        obtain ⟨b, L, ds, eb, ⟨b0, bn, bp, bh⟩, br⟩ := hs
        have nab : b ≠ a := fun z => by rw [z, eh] at bh; cases bh
        exact ⟨b, L, ds, eb, ⟨b0, bn, bp, by rw [upd_ne nab]; exact bh⟩, br⟩
      | mdic b kds =>
        obtain ⟨L, ds, eb, ⟨b0, bn, bp, bh⟩, br⟩ := hs
        have nab : b ≠ a := fun z => by rw [z, eh] at bh; cases bh
        exact ⟨L, ds, eb, ⟨b0, bn, bp, by rw [upd_ne nab]; exact bh⟩, br⟩
      | tmp d1 =>
        unfold noTmp at nt
        rw [List.all_eq_true] at nt
        have := nt _ (List.mem_of_getElem? q)
        cases this
      | fact φ => exact hs
  · have at_ : ∀ {j : Nat} {es : List PyData}, (ρ.set i (.own ds'))[j]? = some (.own es) → ∃ es', ρ[j]? = some (.own es') := fun {j es} q => by
      by_cases hj : i = j
      · subst hj; exact ⟨ds, e⟩
      · rw [List.getElem?_set_ne hj] at q; exact ⟨es, q⟩
    obtain ⟨_, z1⟩ := at_ e1
    obtain ⟨_, z2⟩ := at_ e2
    exact r.own j l _ _ b z1 z2 e3 e4
theorem Ext.write {F0 : Hp} {p : Option Addr} {H0 F H : Hp} (x : Ext p F0 H0 F H) {a : Addr} {o : HO} (h0 : H0 a = none) (n : F a = none) (hp : p ≠ some a) : Ext p F0 H0 F (upd H a o) := by
  refine ⟨x.ff, fun b u e => ?_, fun b u np e => ?_, x.fr, fun q e hq => ?_⟩
  · rw [upd_ne (ne_of_none e n)]; exact x.fh _ _ e
  · rw [upd_ne (ne_of_none e h0)]; exact x.hh _ _ np e
  · obtain ⟨y, z, e2, r⟩ := x.pt q e hq
    exact ⟨y, z, by rw [upd_ne (fun w => hp (by rw [e, w]))]; exact e2, r⟩
end
section
variable {X : Cx} {pos pc pa pn : Pos} {e : Expr} {te : DT}
/-- x.append(e), x an own list -/
def dAppend (i : Nat) (t : DT) : DS := fun D ρ => match ρ[i]? with | some (.own ds) => t ρ fun d => (noTmp ρ = true ∧ ds.length < 16777216) ∧ D.nx (ρ.set i (.own (ds ++ [d]))) | _ => False
theorem own_at {k : Kw} {p : Option Addr} {H0 F H : Hp} {σ : Sg} {ρ : Rho} (r : Rep k p H0 F H σ ρ) {i : Nat} {ds : List PyData} (e : ρ[i]? = some (.own ds)) : ∃ a vs, σ[i]? = some (some (.ref a)) ∧ slv σ i = some (.ref a) ∧ H0 a = none ∧ F a = none ∧ p ≠ some a ∧ H a = some (.lst vs) ∧ DVs k.K F vs ds := by
  obtain ⟨a, vs, ea, h⟩ := r.all i _ e
  exact ⟨a, vs, slv_of ea, ea, h⟩
theorem ds_append (i : Nat) {y : Str} (he : DE X e te) (hi : X.N[i]? = some y := by rfl) (hv : Vis X.env.scope y := by first | exact Or.inl rfl | exact Or.inr (Or.inl rfl) | exact Or.inr (Or.inr rfl)) (hd : (y == ("__debug__" : Str)) = false := by decide) (hcd : (y == ("__classdict__" : Str)) = false := by decide)
    (hbase : attributeBase (.Name y pn) "append" X.env (eval (.Name y pn) X.env) = eval (.Name y pn) X.env := by rfl)
    (hfew : ((backTo pc (starEach (e :: []) X.env)).all (fun x => !x.1) && (backToKw pc (keywordEach [] X.env)).all (fun x => x.1.isSome)
      && decide ((e :: ([] : List Expr)).length + ([] : List Keyword).length + (if ([] : List Keyword).isEmpty then 0 else 1) < 30)) = true := by rfl)
    (hline : (pa.endLine == pc.line) = true := by rfl) (hs : starEach (e :: []) X.env = (false, eval e X.env) :: starEach [] X.env := by rfl) (hplain : (backTo pc (starEach [] X.env)).any (·.1) = false := by rfl)
    (hsw : swapsWith (.Call (.Attribute (.Name y pn) "append" pa) [e] [] pc) none pos.line X.env = pure false := by rfl) :
    DP X (.Expr (.Call (.Attribute (.Name y pn) "append" pa) [e] [] pc) pos) (dAppend i te) := by
  refine PS.wk (ps_expr (pe_bm PySem.F.plainAttrs_list PySem.F.slot_list_append PySem.F.type_list_append mt_append (pe_var hi hv hd hcd) (pa_cons he pa_nil hs) hbase hfew hline hs hplain) hsw) fun D σ H ⟨p, H0, F0, F, ρ, Dd, f, x, r, q, k⟩ => ?_
  unfold dAppend at q
  split at q
  · rename_i ds ei
    obtain ⟨a, vs, es, ea, h0, n, hp, eh, rv⟩ := own_at r ei
    refine ⟨.ref a, es, .inl ⟨rfl, vs, .of eh⟩, p, H0, F, ρ, _, x.fit f, r, q, fun d v F' H' y hv hq => ?_⟩
    have eh' := y.hh a _ hp eh
    have n' := y.fr a _ eh n
    refine ⟨a, vs, v, rfl, rfl, eh', by rw [sl_eq, rv.length]; exact hq.1.2, ?_⟩
    exact k.nx σ F' _ _ y.ff ((x.trans f y).write h0 n' hp) ((r.ext y).write ei ea ((rv.mono y.ff).append (.cons hv .nil)) hq.1.1) hq.2
  · exact q.elim
/-- x.extend(e), e a list -/
def dExtend (i : Nat) (t : DT) : DS := fun D ρ => match ρ[i]? with | some (.own ds) => t ρ fun d => (match d with | .list es => (noTmp ρ = true ∧ ds.length + es.length ≤ 16777216) ∧ D.nx (ρ.set i (.own (ds ++ es))) | _ => False) | _ => False
theorem ds_extend (i : Nat) {y : Str} (he : DE X e te) (hi : X.N[i]? = some y := by rfl) (hv : Vis X.env.scope y := by first | exact Or.inl rfl | exact Or.inr (Or.inl rfl) | exact Or.inr (Or.inr rfl)) (hd : (y == ("__debug__" : Str)) = false := by decide) (hcd : (y == ("__classdict__" : Str)) = false := by decide)
    (hbase : attributeBase (.Name y pn) "extend" X.env (eval (.Name y pn) X.env) = eval (.Name y pn) X.env := by rfl)
    (hfew : ((backTo pc (starEach (e :: []) X.env)).all (fun x => !x.1) && (backToKw pc (keywordEach [] X.env)).all (fun x => x.1.isSome)
      && decide ((e :: ([] : List Expr)).length + ([] : List Keyword).length + (if ([] : List Keyword).isEmpty then 0 else 1) < 30)) = true := by rfl)
    (hline : (pa.endLine == pc.line) = true := by rfl) (hs : starEach (e :: []) X.env = (false, eval e X.env) :: starEach [] X.env := by rfl) (hplain : (backTo pc (starEach [] X.env)).any (·.1) = false := by rfl)
    (hsw : swapsWith (.Call (.Attribute (.Name y pn) "extend" pa) [e] [] pc) none pos.line X.env = pure false := by rfl) :
    DP X (.Expr (.Call (.Attribute (.Name y pn) "extend" pa) [e] [] pc) pos) (dExtend i te) := by
  refine PS.wk (ps_expr (pe_bm PySem.F.plainAttrs_list PySem.F.slot_list_extend PySem.F.type_list_extend mt_extL (pe_var hi hv hd hcd) (pa_cons he pa_nil hs) hbase hfew hline hs hplain) hsw) fun D σ H ⟨p, H0, F0, F, ρ, Dd, f, x, r, q, k⟩ => ?_
  unfold dExtend at q
  split at q
  · rename_i ds ei
    obtain ⟨a, vs, es, ea, h0, n, hp, eh, rv⟩ := own_at r ei
    refine ⟨.ref a, es, .inl ⟨rfl, vs, .of eh⟩, p, H0, F, ρ, _, x.fit f, r, q, fun d v F' H' y hv hq => ?_⟩
    have eh' := y.hh a _ hp eh
    have n' := y.fr a _ eh n
    cases d with
    | list es =>
      cases hv with
      | @lst b ws _ hb hr =>
        refine ⟨a, b, vs, ws, rfl, rfl, eh', sql_same y.fh hb, by rw [sl_eq, rv.length, hr.length]; exact hq.1.2, ?_⟩
        exact k.nx σ F' _ _ y.ff ((x.trans f y).write h0 n' hp) ((r.ext y).write ei ea ((rv.mono y.ff).append hr) hq.1.1) hq.2
    | _ => exact hq.elim
  · exact q.elim
/-- an own list is put to rest (nothing runs) -/
def dFreeze (i : Nat) (t : DS) : DS := fun D ρ => match ρ[i]? with | some (.own ds) => t D (ρ.set i (.dat (.list ds))) | _ => False
theorem Rep.freeze {k : Kw} {p : Option Addr} {H0 F H : Hp} {σ : Sg} {ρ : Rho} (r : Rep k p H0 F H σ ρ) {i : Nat} {ds : List PyData} {a : Addr} {vs : List V} (ei : ρ[i]? = some (.own ds)) (ea : slv σ i = some (.ref a)) (n : F a = none) (rv : DVs k.K F vs ds)
    (nt : noTmp ρ = true) : Rep k p H0 (upd F a (.lst vs)) H σ (ρ.set i (.dat (.list ds))) := by
  have hi : i < ρ.length := (List.getElem?_eq_some_iff.mp ei).1
  have sF := same_upd (o := .lst vs) n
  refine ⟨by simp [r.len], fun j s q => ?_, fun j l es es' b e1 e2 e3 e4 => ?_⟩
  · by_cases hj : i = j
    · subst hj
      rw [List.getElem?_set_self hi] at q
      cases q
      exact ⟨.ref a, ea, .lst (.of upd_same) (rv.mono sF)⟩
    · rw [List.getElem?_set_ne hj] at q
      have hs := r.all j s q
      cases s with
      | emp => trivial
      | dat d => obtain ⟨y, e, rr⟩ := hs; exact ⟨y, e, rr.mono sF⟩
      | own es =>
        obtain ⟨b, ws, eb, b0, bn, bp, bh, br⟩ := hs
        have nab : b ≠ a := fun z => hj (r.own i j ds es a ei q ea (by rw [eb, z]))
        exact ⟨b, ws, eb, b0, by rw [upd_ne nab]; exact bn, bp, bh, br.mono sF⟩
      | pot => exact hs
      | sett S =>
        obtain ⟨b, L, eb, bp, bh, br, bs⟩ := hs
        exact ⟨b, L, eb, bp, bh, fun q hq => sqt_same sF (br q hq), bs⟩
      | dic kds =>
        obtain ⟨b, L, ds, eb, ⟨b0, bn, bp, bh⟩, br, bw, bz⟩ := hs
        obtain ⟨a', vs', ea', _, _, _, eh', _⟩ := r.all i _ ei
        rw [ea] at ea'
        cases ea'
        have nab : b ≠ a := fun z => by rw [z, eh'] at bh; cases bh
        exact ⟨b, L, ds, eb, ⟨b0, by rw [upd_ne nab]; exact bn, bp, bh⟩, fun q hq => sqt_same sF (br q hq), bw.mono sF, bz⟩
      | rdic kds =>
        obtain ⟨b, L, ds, eb, ⟨b0, bn, bp, bh⟩, br, bw, bz⟩ := hs
        obtain ⟨a', vs', ea', _, _, _, eh', _⟩ := r.all i _ ei
        rw [ea] at ea'
        cases ea'
        have nab : b ≠ a := fun z => by rw [z, eh'] at bh; cases bh
        exact ⟨b, L, ds, eb, ⟨b0, by rw [upd_ne nab]; exact bn, bp, bh⟩, fun q hq => sqt_same sF (br q hq), bw.mono sF, bz⟩
      | mdic b kds =>
        obtain ⟨L, ds, eb, ⟨b0, bn, bp, bh⟩, br, bw, bz⟩ := hs
        obtain ⟨a', vs', ea', _, _, _, eh', _⟩ := r.all i _ ei
        rw [ea] at ea'
        cases ea'
        have nab : b ≠ a := fun z => by rw [z, eh'] at bh; cases bh
        exact ⟨L, ds, eb, ⟨b0, by rw [upd_ne nab]; exact bn, bp, bh⟩, fun q hq => sqt_same sF (br q hq), bw.mono sF, bz⟩
      | tmp d1 =>
        unfold noTmp at nt
        rw [List.all_eq_true] at nt
        have := nt _ (List.mem_of_getElem? q)
        cases this
      | fact φ => exact fun F2 e => hs F2 (sF.trans e)
  · have at_ : ∀ {j : Nat} {es : List PyData}, (ρ.set i (.dat (.list ds)))[j]? = some (.own es) → ρ[j]? = some (.own es) := fun {j es} q => by
      by_cases hj : i = j
      · subst hj
        rw [List.getElem?_set_self hi] at q
        cases q
      · rw [List.getElem?_set_ne hj] at q; exact q
    exact r.own j l es es' b (at_ e1) (at_ e2) e3 e4
theorem ds_freeze (i : Nat) {st : Stmt} {t : DS} (nt : True := trivial) (h : DP X st t) : DP X st (fun D ρ => noTmp ρ = true ∧ dFreeze i t D ρ) := by
  refine PS.wk h fun D σ H ⟨p, H0, F0, F, ρ, Dd, f, x, r, ⟨nt, q⟩, k⟩ => ?_
  unfold dFreeze at q
  split at q
  · rename_i ds ei
    obtain ⟨a, vs, es, ea, h0, n, hp, eh, rv⟩ := own_at r ei
    have x2 : Ext p F0 H0 (upd F a (.lst vs)) H := x.rest h0 eh n
    exact ⟨p, H0, F0, _, _, Dd, f, x2, r.freeze ei ea n rv nt, q, k.mono (same_upd n)⟩
  · exact q.elim
/-- looking into an own list: what comes of it stands by itself -/
def atom : PyData → Bool
  | .none | .bool _ | .int _ | .str _ => true
  | _ => false
theorem DV.atom {K : PySem.W.Frag} {F F' : Hp} {v : V} {d : PyData} (h : DV K F v d) (a : atom d = true) : DV K F' v d := by
  cases h with
  | non => exact .non
  | bl b => exact .bl b
  | int i => exact .int i
  | str x => exact .str x
  | lst _ _ => cases a
  | tup _ _ => cases a
  | dct _ => cases a
  | dcT _ _ _ _ => cases a
def dPeek (i : Nat) (t : DT) : DT := fun ρ Q => match ρ[i]? with | some (.own ds) => noTmp ρ = true ∧ t (ρ.set i (.dat (.list ds))) (fun d => atom d = true ∧ Q d) | _ => False
def cPeek (i : Nat) (t : DTT) : DTT := fun ρ Q => match ρ[i]? with | some (.own ds) => noTmp ρ = true ∧ t (ρ.set i (.dat (.list ds))) Q | _ => False
/-- back from F with the own list at rest to F alone -/
theorem Ext.unrest {p : Option Addr} {F H F2 H' : Hp} {a : Addr} {o : HO} (f : Same F H) (x : Ext p (upd F a o) H F2 H') (n : F a = none) : Ext p F H F H' :=
  ⟨Same.refl _, fun b u e => x.fh _ _ (x.ff _ _ (by rw [upd_ne (ne_of_none e n)]; exact e)), x.hh, fun _ _ _ e => e, x.pt⟩
theorem Fit.rest {p : Option Addr} {F H : Hp} {a : Addr} {o : HO} (f : Fit p F H) (e : H a = some o) (hp : p ≠ some a) : Fit p (upd F a o) H := by
  refine ⟨fun b u z => ?_, fun q hq => ⟨?_, (f.pot q hq).2⟩⟩
  · by_cases hb : b = a
    · subst hb; rw [upd_same] at z; rw [e]; exact z
    · rw [upd_ne hb] at z; exact f.sub _ _ z
  · rw [upd_ne (fun z => hp (by rw [hq, z]))]; exact (f.pot q hq).1
theorem de_peek (i : Nat) (h : DE X e te) : DE X e (dPeek i te) := by
  refine PE.wk h fun σ H Q ⟨p, H0, F, ρ, Qd, f, r, q, k⟩ => ?_
  unfold dPeek at q
  split at q
  · rename_i ds ei
    obtain ⟨nt, q⟩ := q
    obtain ⟨a, vs, es, ea, h0, n, hp, eh, rv⟩ := own_at r ei
    refine ⟨p, H0, upd F a (.lst vs), _, _, f.rest eh hp, r.freeze ei ea n rv nt, q, fun d v F' H' x hv hq => ?_⟩
    exact k d v F H' (x.unrest f.sub n) (hv.atom hq.1) hq.2
  · exact q.elim
variable {tc : DTT}
theorem dc_peek (i : Nat) (h : DC X e tc) : DC X e (cPeek i tc) := by
  refine PT.wk h fun σ H Q ⟨p, H0, F, ρ, Qd, f, r, q, k⟩ => ?_
  unfold cPeek at q
  split at q
  · rename_i ds ei
    obtain ⟨nt, q⟩ := q
    obtain ⟨a, vs, es, ea, h0, n, hp, eh, rv⟩ := own_at r ei
    exact ⟨p, H0, upd F a (.lst vs), _, _, f.rest eh hp, r.freeze ei ea n rv nt, q, fun b F' H' x hq => k b F H' (x.unrest f.sub n) hq⟩
  · exact q.elim
end
end DL


namespace DL
open PySem PySem.Spec PyProof.Rows L2

/-! ### targets -/
abbrev DGT := PyData → Rho → (Rho → Prop) → Prop
abbrev DGTs := List PyData → Rho → (Rho → Prop) → Prop
/-- but for the slots of vs all stands -/
def But (vs : List Nat) (σ σ' : Sg) : Prop := σ'.length = σ.length ∧ ∀ j, j ∉ vs → σ'[j]? = σ[j]?
def tDG (k : Kw) (vs : List Nat) (g : DGT) : TG := fun v σ H Q => ∃ p H0 F ρ d, ∃ Qd : Rho → Prop, Fit p F H ∧ Rep k p H0 F H σ ρ ∧ DV k.K F v d ∧ g d ρ Qd ∧ ∀ σ' ρ', Rep k p H0 F H σ' ρ' → But vs σ σ' → Qd ρ' → Q σ' H
def tDGs (k : Kw) (vs : List Nat) (g : DGTs) : TGs := fun ws σ H Q => ∃ p H0 F ρ ds, ∃ Qd : Rho → Prop, Fit p F H ∧ Rep k p H0 F H σ ρ ∧ DVs k.K F ws ds ∧ g ds ρ Qd ∧ ∀ σ' ρ', Rep k p H0 F H σ' ρ' → But vs σ σ' → Qd ρ' → Q σ' H
abbrev DG (X : Cx) (tg : Expr) (vs : List Nat) (g : DGT) : Prop := PG X tg (tDG (kw X) vs g)
abbrev DGs (X : Cx) (tgs : List Expr) (vs : List Nat) (g : DGTs) : Prop := PGs X tgs (tDGs (kw X) vs g)
theorem PG.wk {X : Cx} {e : Expr} {t u : TG} (h : PG X e t) (w : ∀ v σ H Q, u v σ H Q → t v σ H Q) : PG X e u := ⟨fun pins s σ H v uu Q I r q => h.run pins s σ H v uu Q I r (w v σ H Q q)⟩
theorem PGs.wk {X : Cx} {e : List Expr} {t u : TGs} (h : PGs X e t) (w : ∀ v σ H Q, u v σ H Q → t v σ H Q) : PGs X e u := ⟨fun pins s σ H v uu Q I r q => h.run pins s σ H v uu Q I r (w v σ H Q q)⟩
section
variable {X : Cx} {pos : Pos} {e : Expr} {es : List Expr}
def gSet (i : Nat) : DGT := fun d ρ Q => Q (ρ.set i (.dat d))
theorem dg_name (i : Nat) {y : Str} (hN : X.N.Nodup) (hi : X.N[i]? = some y := by rfl) (hx : Loc X.env.scope y := by first | exact Or.inl rfl | exact Or.inr rfl)
    (hf : X.fn y = true ∨ X.env.scope.names.lookup y = some .local := by first | exact .inl rfl | exact .inr rfl) : DG X (.Name y pos) [i] (gSet i) := by
  refine PG.wk (pg_name hN hi hx hf) fun v σ H Q ⟨p, H0, F, ρ, d, Qd, f, r, hv, q, k⟩ => ?_
  refine k _ _ (r.set i (some v) (sl := .dat d) ⟨v, rfl, hv⟩ (fun ds z => by cases z)) ⟨by simp, fun j hj => ?_⟩ q
  have nj : i ≠ j := fun z => hj (by simp [z])
  exact List.getElem?_set_ne nj
def gsNil : DGTs := fun ds ρ Q => match ds with | [] => Q ρ | _ => False
def gsCons (g : DGT) (gs : DGTs) : DGTs := fun ds ρ Q => match ds with | d :: r => g d ρ fun ρ' => gs r ρ' Q | _ => False
theorem dgs_nil : DGs X [] [] gsNil := by
  refine PGs.wk pgs_nil fun ws σ H Q ⟨p, H0, F, ρ, ds, Qd, f, r, hv, q, k⟩ => ?_
  unfold gsNil at q
  split at q
  · cases hv; exact ⟨rfl, k σ ρ r ⟨rfl, fun _ _ => rfl⟩ q⟩
  · exact q.elim
theorem dgs_cons {vs ws : List Nat} {g : DGT} {gs : DGTs} (h1 : DG X e vs g) (h2 : DGs X es ws gs) (hs : (assignEach (e :: es) X.env).map (·.2) = assign e X.env :: (assignEach es X.env).map (·.2) := by rfl) : DGs X (e :: es) (vs ++ ws) (gsCons g gs) := by
  refine PGs.wk (pgs_cons h1 h2 hs) fun us σ H Q ⟨p, H0, F, ρ, ds, Qd, f, r, hv, q, k⟩ => ?_
  unfold gsCons at q
  split at q
  · cases hv with
    | cons h t =>
      refine ⟨_, _, rfl, p, H0, F, ρ, _, _, f, r, h, q, fun σ1 ρ1 r1 b1 q1 => ?_⟩
      refine ⟨p, H0, F, ρ1, _, _, f, r1, t, q1, fun σ2 ρ2 r2 b2 q2 => k σ2 ρ2 r2 ⟨b2.1.trans b1.1, fun j hj => ?_⟩ q2⟩
      rw [List.mem_append, not_or] at hj
      rw [b2.2 j hj.2, b1.2 j hj.1]
  · exact q.elim
def gTupD (gs : DGTs) (n : Nat) : DGT := fun d ρ Q => match d with | .tuple ds => ds.length = n ∧ gs ds ρ Q | _ => False
theorem dg_tup {vs : List Nat} {gs : DGTs} {kt : Nat} (hc : X.calm = true) (h : DGs X es vs gs) {n : Nat} (hn : (assignEach es X.env).length = n := by rfl) (hst : (assignEach es X.env).findIdx? (·.1) = none := by rfl) : DG X (.Tuple es kt pos) vs (gTupD gs n) := by
  refine PG.wk (pg_tup hc h hn hst) fun v σ H Q ⟨p, H0, F, ρ, d, Qd, f, r, hv, q, k⟩ => ?_
  unfold gTupD at q
  split at q
  · rename_i ds
    cases hv with
    | @tup a ws _ h1 h2 =>
      exact ⟨a, ws, rfl, sqt_same f.sub h1, by rw [h2.length]; exact q.1, p, H0, F, ρ, ds, _, f, r, h2, q.2, k⟩
  · exact q.elim
/-- target = e -/
def dAsg (t : DT) (g : DGT) : DS := fun D ρ => t ρ fun d => g d ρ D.nx
theorem ds_asg {vs : List Nat} {g : DGT} {tg : Expr} {te : DT} (he : DE X e te) (hg : DG X tg vs g) (hs : swapsWithSole [tg] e pos.line X.env = pure false := by rfl) (hw : swappedStores [tg] e X.env = pure none := by rfl)
    (h1 : (assignEach [tg] X.env).map (·.2) = [assign tg X.env] := by rfl) : DP X (.Assign [tg] e pos) (dAsg te g) := by
  refine PS.wk (ps_asg he hg hs hw h1) fun D σ H ⟨p, H0, F0, F, ρ, Dd, f, x, r, q, k⟩ => ?_
  refine ⟨p, H0, F, ρ, _, x.fit f, r, q, fun d v F' H' y hv hq => ?_⟩
  exact ⟨p, H0, F', ρ, d, _, y.fit (x.fit f), r.ext y, hv, hq, fun σ' ρ' r' _ q' => k.nx σ' F' H' ρ' y.ff (x.trans f y) r' q'⟩
end

/-! ### what is walked -/
structure WalkD (K : PySem.W.Frag) (p : Option Addr) (F1 : Hp) (J : It) (ds : List PyData) : Prop where
  w : ∃ G Y, Walk J ds.length G Y ∧ (∀ F2 H2, Same F1 F2 → Fit p F2 H2 → G H2) ∧ ∀ i F2 H2 x H3, i < ds.length → Same F1 F2 → Fit p F2 H2 → Y i H2 x H3 → ∃ F3 d, Ext p F2 H2 F3 H3 ∧ ds[i]? = some d ∧ DV K F3 x d
abbrev DIT := Rho → (List PyData → Prop) → Prop
def tDI (k : Kw) (t : DIT) : TI := fun σ H R => ∃ p H0 F ρ, ∃ Qd : List PyData → Prop, Fit p F H ∧ Rep k p H0 F H σ ρ ∧ t ρ Qd ∧ ∀ ds J F' H', Ext p F H F' H' → WalkD k.K p F' J ds → Qd ds → R J H'
abbrev DI (X : Cx) (tg iter : Expr) (t : DIT) : Prop := PI X tg iter (tDI (kw X) t)
theorem PI.wk {X : Cx} {tg e : Expr} {t u : TI} (h : PI X tg e t) (w : ∀ σ H Q, u σ H Q → t σ H Q) : PI X tg e u := ⟨fun pins s σ H Q I q => h.run pins s σ H Q I (w σ H Q q)⟩
theorem PI.or {X : Cx} {tg e : Expr} {t u : TI} (h : PI X tg e t) (h' : PI X tg e u) : PI X tg e (fun σ H R => t σ H R ∨ u σ H R) := ⟨fun pins s σ H Q I q => q.elim (h.run pins s σ H Q I) (h'.run pins s σ H Q I)⟩
theorem sel_get {α : Type} {l : List α} {i : Nat} (h : i < l.length) : l[i]? = some l[i] := by simp [h]
section
variable {X : Cx} {tg e e2 : Expr} {t t2 : DT} {u : DL_} {pos p' : Pos}
theorem walkD_seq {K : PySem.W.Frag} {p : Option Addr} {F1 : Hp} {J : It} {vs : List V} {ds : List PyData} (hv : DVs K F1 vs ds) {G : Hp → Prop} (w : Walk J vs.length G (YAt vs)) (hG : ∀ F2 H2, Same F1 F2 → Fit p F2 H2 → G H2) : WalkD K p F1 J ds := by
  refine ⟨G, YAt vs, by rw [← hv.length]; exact w, hG, fun i F2 H2 x H3 hi s f y => ?_⟩
  obtain ⟨e, hx⟩ := y
  subst e
  obtain ⟨d, hd, r⟩ := hv.get' hx
  exact ⟨F2, d, Ext.refl f.sub, hd, r.mono s⟩
/-- a list or a tuple -/
def iSeq (t : DT) : DIT := fun ρ Q => t ρ fun d => match d with | .list ds => Q ds | .tuple ds => Q ds | _ => False
def dSeqQ (Qd : List PyData → Prop) (d : PyData) : Prop := match d with | .list ds => Qd ds | .tuple ds => Qd ds | _ => False
theorem walk_data {p : Option Addr} {H0 F : Hp} {k : Kw} {R : It → Hp → Prop} {F' H' H : Hp} {Qd : List PyData → Prop} (K2 : ∀ ds J F' H', Ext p F H F' H' → WalkD k.K p F' J ds → Qd ds → R J H') {d : PyData} {v : V} (x : Ext p F H F' H') (hv : DV k.K F' v d) (hq : dSeqQ Qd d) :
    (∃ a, v = .ref a ∧ (∃ xs, SqL k.K H' a xs) ∧ R (Itl k.K a) H') ∨ ∃ a, v = .ref a ∧ (∃ xs, SqT k.K H' a xs) ∧ R (Itt k.K a) H' := by
  cases d with
  | list ds =>
    cases hv with
    | @lst a vs _ h1 h2 => exact .inl ⟨a, rfl, ⟨vs, sql_same x.fh h1⟩, K2 ds _ F' H' x (walkD_seq h2 walk_list fun F2 H2 s f => sql_same f.sub (sql_same s h1)) hq⟩
  | tuple ds =>
    cases hv with
    | @tup a vs _ h1 h2 => exact .inr ⟨a, rfl, ⟨vs, sqt_same x.fh h1⟩, K2 ds _ F' H' x (walkD_seq h2 walk_tup fun F2 H2 s f => sqt_same f.sub (sqt_same s h1)) hq⟩
  | _ => exact hq.elim
theorem iter_l {pins : List (Addr × Obj)} {σ : Sg} {H : Hp} {s : Shared} {R : It → Hp → Prop} {a : Addr} {xs : List V} (I : Inv X pins σ H s) (h : SqL X.K H a xs) (q : R (Itl X.K a) H) : wpAny (model X.prog X.w) X.A (pyIter (.ref a)) (PIE X pins σ tg R) X.xe s := by
  obtain ⟨its, rv, pl, hz⟩ := I.list h
  have fresh := I.fpOk (H' := H) (Nat.le_refl s.heap.objs.size) (I.hok.fresh (Nat.le_refl _))
  exact wpAny_pyIter_list pl.isList ⟨s.heap.objs.size, [s.heap.objs.size], _, _, H, rfl, I.kept (t' := s.toks) (fun b o e => Heap.get?_push_of_some _ e), turn_list a _, ⟨_, Heap.get?_push_size _ rfl, rfl, rfl⟩,
    (fun b hb => by rw [List.mem_singleton.mp hb]; exact fresh), q⟩
theorem iter_t {pins : List (Addr × Obj)} {σ : Sg} {H : Hp} {s : Shared} {R : It → Hp → Prop} {a : Addr} {xs : List V} (I : Inv X pins σ H s) (h : SqT X.K H a xs) (q : R (Itt X.K a) H) : wpAny (model X.prog X.w) X.A (pyIter (.ref a)) (PIE X pins σ tg R) X.xe s := by
  obtain ⟨its, rv, pl, hz⟩ := I.tuple h
  have fresh := I.fpOk (H' := H) (Nat.le_refl s.heap.objs.size) (I.hok.fresh (Nat.le_refl _))
  exact wpAny_pyIter_tuple (show s.heap.IsTuple a its.toArray from pl) ⟨s.heap.objs.size, [s.heap.objs.size], _, _, H, rfl, I.kept (t' := s.toks) (fun b o e => Heap.get?_push_of_some _ e), turn_tuple a _, ⟨_, Heap.get?_push_size _ rfl, rfl, rfl⟩,
    (fun b hb => by rw [List.mem_singleton.mp hb]; exact fresh), q⟩
theorem di_seq {l : Expr} (hl : DE X l t) : DI X tg l (iSeq t) := by
  refine ⟨fun pins s σ H R I ⟨p, H0, F, ρ, Qd, f, r, q, k⟩ => ?_⟩
  refine thn (hl.run pins s σ H (fun v H1 => (∃ a, v = .ref a ∧ (∃ xs, SqL X.K H1 a xs) ∧ R (Itl X.K a) H1) ∨ ∃ a, v = .ref a ∧ (∃ xs, SqT X.K H1 a xs) ∧ R (Itt X.K a) H1) I ⟨p, H0, F, ρ, _, f, r, q, fun d v F' H' x hv hq => walk_data (H0 := H0) (fun ds J F' H' => k ds J F' H') x hv hq⟩) fun v s1 ⟨x, H1, I1, r1, q1⟩ => ?_
  rcases q1 with ⟨a, rfl, ⟨xs, hs⟩, q⟩ | ⟨a, rfl, ⟨xs, hs⟩, q⟩
  · cases r1; exact iter_l I1 hs q
  · cases r1; exact iter_t I1 hs q
def rgD (lo : Int) (n : Nat) : List PyData := (List.range n).map fun i => .int (lo + (i : Nat))
theorem walkD_rg {K : PySem.W.Frag} {p : Option Addr} {F1 : Hp} {lo : Int} {n : Nat} : WalkD K p F1 (Itr lo n) (rgD lo n) := by
  have l : (rgD lo n).length = n := by simp [rgD]
  refine ⟨_, _, by rw [l]; exact walk_range, fun _ _ _ _ => trivial, fun i F2 H2 x H3 hi s f y => ?_⟩
  obtain ⟨e, hx⟩ := y
  subst e hx
  rw [l] at hi
  exact ⟨F2, .int (lo + (i : Nat)), Ext.refl f.sub, by simp [rgD, hi], .int _⟩
def iRg1 (u : DL_) : DIT := fun ρ Q => u ρ fun ds => match ds with | [.int j] => (-(2 ^ 62) ≤ j ∧ j < 2 ^ 62) ∧ Q (rgD 0 j.toNat) | _ => False
def iRg2 (u : DL_) : DIT := fun ρ Q => u ρ fun ds => match ds with | [.int i, .int j] => (-(2 ^ 62) ≤ i ∧ i < 2 ^ 62 ∧ -(2 ^ 62) ≤ j ∧ j < 2 ^ 62) ∧ Q (rgD i (j - i).toNat) | _ => False
theorem di_rg1 {a : Expr} (hm : X.mg "range" = none) (ha : DLs X [a] u) (hg : Gl X "range" := by rfl) (hs : starEach [a] X.env = [(false, eval a X.env)] := by rfl) : DI X tg (.Call (.Name "range" p') [a] [] pos) (iRg1 u) := by
  refine PI.wk (pi_range1 hg hm ha hs) fun σ H R ⟨p, H0, F, ρ, Qd, f, r, q, k⟩ => ?_
  refine ⟨p, H0, F, ρ, _, f, r, q, fun ds vs F' H' x hv hq => ?_⟩
  split at hq
  · cases hv with
    | cons h t => cases t; cases h; exact ⟨_, rfl, hq.1.1, hq.1.2, k _ _ F' H' x walkD_rg hq.2⟩
  · exact hq.elim
theorem di_rg2 {a b : Expr} (hm : X.mg "range" = none) (ha : DLs X [a, b] u) (hg : Gl X "range" := by rfl) (hs : starEach [a, b] X.env = [(false, eval a X.env), (false, eval b X.env)] := by rfl) (hs2 : starEach [b] X.env = [(false, eval b X.env)] := by rfl) :
    DI X tg (.Call (.Name "range" p') [a, b] [] pos) (iRg2 u) := by
  refine PI.wk (pi_range2 hg hm ha hs hs2) fun σ H R ⟨p, H0, F, ρ, Qd, f, r, q, k⟩ => ?_
  refine ⟨p, H0, F, ρ, _, f, r, q, fun ds vs F' H' x hv hq => ?_⟩
  split at hq
  · cases hv with
    | cons h t => cases h; cases t with | cons h t => cases t; cases h; exact ⟨_, _, rfl, hq.1, k _ _ F' H' x walkD_rg hq.2⟩
  · exact hq.elim
/-- pairs -/
def prD2 (ds es : List PyData) : List PyData := (ds.zip es).map fun q => .tuple [q.1, q.2]
theorem walkD_pair {K : PySem.W.Frag} {p : Option Addr} {F1 : Hp} {J : It} {vs ws : List V} {ds es : List PyData} (hv : DVs K F1 vs ds) (hw : DVs K F1 ws es) {G : Hp → Prop} {n : Nat} (hn : n = min vs.length ws.length)
    (w : Walk J n G (YPair (fun i => vs[i]?) (fun i => ws[i]?))) (hG : ∀ F2 H2, Same F1 F2 → Fit p F2 H2 → G H2) : WalkD K p F1 J (prD2 ds es) := by
  have l : (prD2 ds es).length = n := by simp [prD2, hn, hv.length, hw.length]
  refine ⟨G, _, by rw [l]; exact w, hG, fun i F2 H2 x H3 hi s f y => ?_⟩
  obtain ⟨T, a, b, rfl, hT, rfl, ha, hb⟩ := y
  obtain ⟨d, hd, rd⟩ := hv.get' ha
  obtain ⟨e, he, re⟩ := hw.get' hb
  have xx := Ext.new f (o := .tup [a, b]) hT
  refine ⟨_, .tuple [d, e], xx, ?_, .tup (.of upd_same) ((DVs.cons (rd.mono s) (.cons (re.mono s) .nil)).mono xx.ff)⟩
  unfold prD2
  rw [List.getElem?_map]
  have z : (ds.zip es)[i]? = some (d, e) := by
    rw [List.getElem?_zip_eq_some]
    exact ⟨hd, he⟩
  rw [z]; rfl
def enD (ds : List PyData) : List PyData := prD2 (rgD 0 ds.length) ds
def iZip_ (u : DL_) : DIT := fun ρ Q => u ρ fun zs => match zs with
  | [.list ds, .list es] => Q (prD2 ds es)
  | [.tuple ds, .tuple es] => Q (prD2 ds es)
  | _ => False
theorem walk_zipT {K : PySem.W.Frag} {a b : Addr} {xs ys : List V} {n : Nat} (hn : n = min xs.length ys.length) : Walk (RZ.ItzT K a b) n (fun H => SqT K H a xs ∧ SqT K H b ys) (YPair (fun i => xs[i]?) (fun i => ys[i]?)) := by
  subst hn
  refine ⟨fun i H hi q => ?_, fun H q => ⟨xs, ys, q.1, q.2, by omega⟩, fun i H v H' hi q y => ?_⟩
  · have h1 : i < xs.length := by omega
    have h2 : i < ys.length := by omega
    exact ⟨xs, ys, xs[i], ys[i], q.1, q.2, sel_get h1, sel_get h2⟩
  · obtain ⟨T, x, z, h1, h2, h3, h4, h5⟩ := y
    exact ⟨T, x, z, h1, h2, h3, h4 xs q.1, h5 ys q.2⟩
theorem di_zip {elts : List Expr} {kk : Nat} {tpos : Pos} (hm : X.mg "zip" = none) (ha : DLs X [e, e2] u) (hg : Gl X "zip" := by rfl) (hs : starEach [e, e2] X.env = (false, eval e X.env) :: starEach [e2] X.env := by rfl) (hpl : (backTo pos (starEach [e2] X.env)).any (·.1) = false := by rfl) :
    DI X (.Tuple elts kk tpos) (.Call (.Name "zip" p') [e, e2] [] pos) (iZip_ u) := by
  refine PI.wk (RZ.pi_zipA hg hm ha hs hpl) fun σ H R ⟨p, H0, F, ρ, Qd, f, r, q, k⟩ => ?_
  refine ⟨p, H0, F, ρ, _, f, r, q, fun zs vs F' H' x hv hq => ?_⟩
  split at hq
  · cases hv with
    | cons h t =>
      cases t with
      | cons h' t' =>
        cases t'
        cases h with
        | @lst a xs _ h1 h2 =>
          cases h' with
          | @lst b ys _ h3 h4 =>
            exact ⟨a, b, xs, ys, rfl, .inl ⟨sql_same x.fh h1, sql_same x.fh h3, k _ _ F' H' x (walkD_pair h2 h4 rfl (walk_zip rfl) fun F2 H2 s f => ⟨sql_same f.sub (sql_same s h1), sql_same f.sub (sql_same s h3)⟩) hq⟩⟩
  · cases hv with
    | cons h t =>
      cases t with
      | cons h' t' =>
        cases t'
        cases h with
        | @tup a xs _ h1 h2 =>
          cases h' with
          | @tup b ys _ h3 h4 =>
            exact ⟨a, b, xs, ys, rfl, .inr ⟨sqt_same x.fh h1, sqt_same x.fh h3, k _ _ F' H' x (walkD_pair h2 h4 rfl (walk_zipT rfl) fun F2 H2 s f => ⟨sqt_same f.sub (sqt_same s h1), sqt_same f.sub (sqt_same s h3)⟩) hq⟩⟩
  · exact hq.elim

/-! ### for -/
variable {body : List Stmt} {iter : Expr} {it : DIT} {g : DGT} {tb : DS} {vs : List Nat}
def loopD (g : DGT) (tb : DS) (D : DEnds) : List PyData → Rho → Prop
  | [], ρ => D.nx ρ
  | d :: ds, ρ => g d ρ fun ρ1 => tb { nx := loopD g tb D ds, rt := D.rt, bk := D.nx, ct := loopD g tb D ds } ρ1
def dFor (it : DIT) (g : DGT) (tb : DS) : DS := fun D ρ => it ρ fun ds => loopD g tb D ds ρ
theorem ds_for (hp : PassesOwn (model X.prog X.w) X.A X.env X.xe) (hc : X.calm = true) (hi : DI X tg iter it) (hg : DG X tg vs g) (hb : DPs X body tb) (hs : ∀ x, foldedSetIterable iter X.env x = pure x := by intro _; rfl) : DP X (.For tg iter body [] pos) (dFor it g tb) := by
  refine PS.wk (ps_for hp hc hi hg hb hs) fun D σ H ⟨p, H0, F0, F, ρ, Dd, f, x, r, q, k⟩ => ?_
  refine ⟨p, H0, F, ρ, _, x.fit f, r, q, fun ds J F1 H1 y hw hq => ?_⟩
  obtain ⟨G, Y, w, hG, hY⟩ := hw.w
  have x1 := x.trans f y
  have k1 := k.mono y.ff
  refine for_it w (fun i σ' H' => ∃ F' ρ', Same F1 F' ∧ Ext p F0 H0 F' H' ∧ Rep (kw X) p H0 F' H' σ' ρ' ∧ loopD g tb Dd (ds.drop i) ρ') ⟨F1, ρ, Same.refl _, x1, r.ext y, hq⟩ ?_ ?_ ?_
  · rintro i σ' H' _ ⟨F', ρ', s, x', _, _⟩
    exact hG F' H' s (x'.fit f)
  · rintro i v σ' H2 H3 hi ⟨F', ρ', s, x', r', q'⟩ hy
    obtain ⟨F3, d, e3, hd, hv⟩ := hY i F' H2 v H3 hi s (x'.fit f) hy
    have dr : ds.drop i = d :: ds.drop (i + 1) := by
      obtain ⟨h1, h2⟩ := List.getElem?_eq_some_iff.mp hd
      rw [List.drop_eq_getElem_cons h1, h2]
    rw [dr] at q'
    have x3 := x'.trans f e3
    refine ⟨p, H0, F3, ρ', d, _, x3.fit f, r'.ext e3, hv, q', fun σ4 ρ4 r4 _ q4 => ?_⟩
    have s3 := s.trans e3.ff
    refine ⟨p, H0, F0, F3, ρ4, _, f, x3, r4, q4, ?_⟩
    exact ⟨fun σ5 F5 H5 ρ5 s5 x5 r5 q5 => ⟨F5, ρ5, s3.trans s5, x5, r5, q5⟩, fun σ5 F5 H5 ρ5 s5 x5 r5 q5 => k1.nx σ5 F5 H5 ρ5 (s3.trans s5) x5 r5 q5,
      fun σ5 F5 H5 ρ5 s5 x5 r5 q5 => ⟨F5, ρ5, s3.trans s5, x5, r5, q5⟩, k1.rt⟩
  · rintro σ' H' ⟨F', ρ', s, x', r', q'⟩
    rw [List.drop_length] at q'
    exact k1.nx σ' F' H' ρ' s x' r' q'

/-! ### while -/
def dWhile (c : DTT) (tb : DS) : DS := fun D ρ => ∃ W : Nat → Rho → Prop, (∃ m, W m ρ) ∧ ∀ m ρ, W m ρ → c ρ fun b => match b with
  | true => tb { nx := fun ρ' => ∃ m', m' < m ∧ W m' ρ', rt := D.rt, bk := D.nx, ct := fun ρ' => ∃ m', m' < m ∧ W m' ρ' } ρ
  | false => D.nx ρ
theorem ds_while {c : Expr} {tc : DTT} (hp : PassesOwn (model X.prog X.w) X.A X.env X.xe) (hc : DC X c tc) (hb : DPs X body tb) : DP X (.While c body [] pos) (dWhile tc tb) := by
  refine PS.wk (ps_while hp hc hb) fun D σ H ⟨p, H0, F0, F, ρ, Dd, f, x, r, ⟨W, ⟨m0, w0⟩, turn⟩, k⟩ => ?_
  refine ⟨fun m σ' H' => ∃ F' ρ', Same F F' ∧ Ext p F0 H0 F' H' ∧ Rep (kw X) p H0 F' H' σ' ρ' ∧ W m ρ', ⟨m0, F, ρ, Same.refl _, x, r, w0⟩, ?_⟩
  rintro m σ' H' ⟨F', ρ', s, x', r', w'⟩
  refine ⟨p, H0, F', ρ', _, x'.fit f, r', turn m ρ' w', fun b F2 H2 y hq => ?_⟩
  have x2 := x'.trans f y
  have s2 := s.trans y.ff
  cases b with
  | true =>
    refine iteT ?_
    refine ⟨fun σ3 H3 => ∃ m', m' < m ∧ ∃ F3 ρ3, Same F F3 ∧ Ext p F0 H0 F3 H3 ∧ Rep (kw X) p H0 F3 H3 σ3 ρ3 ∧ W m' ρ3, fun σ3 H3 z => z, ?_⟩
    refine ⟨p, H0, F0, F2, ρ', _, f, x2, r'.ext y, hq, ?_⟩
    exact ⟨fun σ5 F5 H5 ρ5 s5 x5 r5 ⟨m', hm, w5⟩ => ⟨m', hm, F5, ρ5, s2.trans s5, x5, r5, w5⟩, fun σ5 F5 H5 ρ5 s5 x5 r5 q5 => k.nx σ5 F5 H5 ρ5 (s2.trans s5) x5 r5 q5,
      fun σ5 F5 H5 ρ5 s5 x5 r5 ⟨m', hm, w5⟩ => ⟨m', hm, F5, ρ5, s2.trans s5, x5, r5, w5⟩, k.rt⟩
  | false =>
    refine iteF ?_
    exact k.nx σ' F2 H2 ρ' s2 x2 (r'.ext y) hq
end
end DL


namespace DL
open PySem PySem.Spec PyProof.Rows L2

/-! ### comprehensions -/
def wipeD (ρ : Rho) : List Nat → Rho
  | [] => ρ
  | v :: vs => (wipeD ρ vs).set v .emp
theorem Rep.wipe {k : Kw} {p : Option Addr} {H0 F H : Hp} {σ : Sg} {ρ : Rho} (r : Rep k p H0 F H σ ρ) : ∀ vs : List Nat, Rep k p H0 F H (wipe σ vs) (wipeD ρ vs)
  | [] => r
  | v :: vs => (Rep.wipe r vs).set v none (sl := .emp) trivial (fun ds z => by cases z)
theorem wipe_in {σ : Sg} {j : Nat} : ∀ {vs : List Nat}, j ∈ vs → (L2.wipe σ vs)[j]? = (σ[j]?).map fun _ => none
  | v :: vs, h => by
    unfold L2.wipe
    by_cases e : v = j
    · subst e
      by_cases hv : v < σ.length
      · rw [List.getElem?_set_self (by rw [wipe_length]; exact hv)]
        simp [hv]
      · rw [List.getElem?_eq_none (by simp [wipe_length]; omega), List.getElem?_eq_none (by omega)]
        rfl
    · rw [List.getElem?_set_ne e]
      rcases List.mem_cons.mp h with z | z
      · exact absurd z.symm e
      · exact wipe_in z
theorem wipe_but {σ σ2 : Sg} {vs ws : List Nat} (b : But ws (L2.wipe σ vs) σ2) (hs : ∀ j ∈ ws, j ∈ vs) : L2.wipe σ2 vs = L2.wipe σ vs := by
  apply List.ext_getElem?
  intro j
  by_cases hj : j ∈ vs
  · rw [wipe_in hj, wipe_in hj]
    have l : σ2.length = σ.length := by rw [b.1, wipe_length]
    by_cases h : j < σ.length
    · rw [sel_get (l := σ2) (by omega), sel_get h]; rfl
    · rw [List.getElem?_eq_none (by omega), List.getElem?_eq_none (by omega)]
  · rw [wipe_out hj, wipe_out hj, b.2 j fun z => hj (hs j z), wipe_out hj]
def lcD (g : DGT) (tt : DTT) (te : DT) (ρ : Rho) : List PyData → List PyData → (List PyData → Prop) → Prop
  | [], acc, Q => Q acc
  | d :: ds, acc, Q => g d ρ fun ρ1 => tt ρ1 fun b => match b with
    | true => te ρ1 fun y => acc.length < 16777216 ∧ lcD g tt te ρ ds (acc ++ [y]) Q
    | false => lcD g tt te ρ ds acc Q
def oLc (it : DIT) (g : DGT) (tt : DTT) (te : DT) (vs : List Nat) : DOT := fun ρ Q => it ρ fun ds => lcD g tt te (wipeD ρ vs) ds [] Q
def dYes : DTT := fun _ Q => Q true
abbrev DTs (X : Cx) (ifs : List Expr) (t : DTT) : Prop := PTs X ifs (tDT (kw X) t)
theorem PTs.wk {X : Cx} {e : List Expr} {t u : TT} (h : PTs X e t) (w : ∀ σ H Q, u σ H Q → t σ H Q) : PTs X e u := ⟨fun pins s σ H Q I q => h.run pins s σ H Q I (w σ H Q q)⟩
theorem dts_nil {X : Cx} : DTs X [] dYes := PTs.wk pts_nil fun σ H Q ⟨p, H0, F, ρ, Qd, f, r, q, k⟩ => k true F H (Ext.refl f.sub) q
theorem dts_one {X : Cx} {c : Expr} {t : DTT} (h : DC X c t) : DTs X [c] t := pts_one h
section
variable {X : Cx} {elt tg iter : Expr} {ifs : List Expr} {scope : Scope} {own : List (Str × Nat)} {pos spos py : Pos} {it : DIT} {g : DGT} {tt : DTT} {te : DT} {ws : List Nat}
theorem lc_run {kk : Kw} {vs : List Nat} (hs : ∀ j ∈ ws, j ∈ vs) {σ : Sg} {H : Hp} {Q : VK} (h : tO kk (oLc it g tt te vs) σ H Q) : tLc (tDI kk it) (tDG kk ws g) (tDT kk tt) (tD kk te) vs σ H Q := by
  obtain ⟨p, H0, F, ρ, Qd, f, r, q, k⟩ := h
  refine ⟨p, H0, F, ρ, _, f, r, q, fun ds J F1 H1 x1 hw q1 D hD => ?_⟩
  obtain ⟨G, Y, w, hG, hY⟩ := hw.w
  have f1 := x1.fit f
  have n0 := x1.new0 f hD
  refine lc_it w (fun i H' => ∃ F' acc va, Same F1 F' ∧ Ext p F H F' H' ∧ H' D = some (.lst va) ∧ F' D = none ∧ DVs kk.K F' va acc ∧ lcD g tt te (wipeD ρ vs) (ds.drop i) acc Qd) ?_ ?_ ?_ ?_
  · exact ⟨F1, [], [], Same.refl _, x1.trans f (Ext.junk f1 hD), upd_same, f1.none hD, .nil, q1⟩
  · rintro i H' _ ⟨F', acc, va, s, x', _⟩
    exact hG F' H' s (x'.fit f)
  · rintro i v H2 H3 hi ⟨F', acc, va, s, x', hd, nd, rv, q'⟩ hy
    obtain ⟨F3, d, e3, hdd, hv⟩ := hY i F' H2 v H3 hi s (x'.fit f) hy
    have dr : ds.drop i = d :: ds.drop (i + 1) := by
      obtain ⟨h1, h2⟩ := List.getElem?_eq_some_iff.mp hdd
      rw [List.drop_eq_getElem_cons h1, h2]
    rw [dr] at q'
    have x3 := x'.trans f e3
    have hd3 := e3.hh D _ n0.2 hd
    have nd3 := e3.fr D _ hd nd
    have s3 := s.trans e3.ff
    refine ⟨p, H0, F3, wipeD ρ vs, d, _, x3.fit f, (r.ext x3).wipe vs, hv, q', fun σ4 ρ4 r4 b4 q4 => ⟨wipe_but b4 hs, ?_⟩⟩
    refine ⟨p, H0, F3, ρ4, _, x3.fit f, r4, q4, fun b F5 H5 x5 q5 => ?_⟩
    have hd5 := x5.hh D _ n0.2 hd3
    have nd5 := x5.fr D _ hd3 nd3
    have x35 := x3.trans f x5
    cases b with
    | true =>
      refine iteT ?_
      refine ⟨p, H0, F5, ρ4, _, x35.fit f, r4.ext x5, q5, fun y z F6 H6 x6 hz q6 => ?_⟩
      have hd6 := x6.hh D _ n0.2 hd5
      have nd6 := x6.fr D _ hd5 nd5
      have x36 := x35.trans f x6
      refine ⟨va, hd6, by rw [sl_eq, rv.length]; exact q6.1, F6, acc ++ [y], va ++ [z], (s3.trans x5.ff).trans x6.ff, x36.write n0.1 nd6 n0.2, upd_same, nd6, ?_, q6.2⟩
      exact (((rv.mono e3.ff).mono x5.ff).mono x6.ff).append (.cons hz .nil)
    | false =>
      refine iteF ?_
      exact ⟨F5, acc, va, s3.trans x5.ff, x35, hd5, nd5, (rv.mono e3.ff).mono x5.ff, q5⟩
  · rintro H' ⟨F', acc, va, s, x', hd, nd, rv, q'⟩
    rw [List.drop_length] at q'
    exact k acc (.ref D) F' H' x' ⟨D, va, rfl, n0.1, nd, n0.2, hd, rv⟩ q'
theorem do_lc (hc : X.calm = true) (hN : X.N.Nodup) (hi : DI X tg iter it) (ok : BlkOk X.N X.env.scope scope own) (hg : ∀ s H C cl fp, DG (X.blk s H scope (compEnvC scope cl C X.env) fp) tg ws g) (ht : ∀ s H C cl fp, DTs (X.blk s H scope (compEnvC scope cl C X.env) fp) ifs tt)
    (he : ∀ s H C cl fp, DE (X.blk s H scope (compEnvC scope cl C X.env) fp) elt te) (hw : ∀ j ∈ ws, j ∈ own.map (·.2)) (hs : ∀ x, foldedSetIterable iter X.env x = pure x := by intro _; rfl) :
    DO X (.ListComp elt [⟨tg, iter, ifs, 0⟩] scope pos) (oLc it g tt te (own.map (·.2))) :=
  PE.wk (pe_lc hc hN hi ok hg ht he hs) fun σ H Q h => lc_run hw h
theorem ds_setLc (i : Nat) {y : Str} (hc : X.calm = true) (hN : X.N.Nodup) (hi : DI X tg iter it) (ok : BlkOk X.N X.env.scope scope own) (hg : ∀ s H C cl fp, DG (X.blk s H scope (compEnvC scope cl C X.env) fp) tg ws g) (ht : ∀ s H C cl fp, DTs (X.blk s H scope (compEnvC scope cl C X.env) fp) ifs tt)
    (he : ∀ s H C cl fp, DE (X.blk s H scope (compEnvC scope cl C X.env) fp) elt te) (hw : ∀ j ∈ ws, j ∈ own.map (·.2)) (hsw : swapsWith (.ListComp elt [⟨tg, iter, ifs, 0⟩] scope pos) (some (.Name y py)) spos.line X.env = pure true)
    (hy : X.N[i]? = some y := by rfl) (hyl : X.env.scope.names.lookup y = some .local := by rfl) (hs : ∀ x, foldedSetIterable iter X.env x = pure x := by intro _; rfl) :
    DP X (.Assign [.Name y py] (.ListComp elt [⟨tg, iter, ifs, 0⟩] scope pos) spos) (dOwn i (oLc it g tt te (own.map (·.2)))) := by
  refine PS.wk (ps_setLc (wi := tDI (kw X) it) (g := tDG (kw X) ws g) (tt := tDT (kw X) tt) (te := tD (kw X) te) hc hN hy hyl hsw hi ok hg ht he hs) fun D σ H ⟨p, H0, F0, F, ρ, Dd, f, x, r, q, k⟩ => ?_
  refine lc_run hw ⟨p, H0, F, ρ, _, x.fit f, r, q, fun d v F' H' y hv hq => ?_⟩
  obtain ⟨a, vs, rfl, h0, n, hp, eh, rv⟩ := hv
  exact k.nx _ F' H' _ y.ff (x.trans f y) ((r.ext y).setOwn i (x.new0 f h0).1 n hp eh rv (r.fresh h0 i)) hq
/-- an own list that is never changed: data -/
def dDat (i : Nat) (t : DS) : DS := fun D ρ => t { D with nx := fun ρ' => noTmp ρ' = true ∧ match ρ'[i]? with | some (.own ds) => D.nx (ρ'.set i (.dat (.list ds))) | _ => False } ρ
theorem ds_dat (i : Nat) {st : Stmt} {t : DS} (h : DP X st t) : DP X st (dDat i t) := by
  refine PS.wk h fun D σ H ⟨p, H0, F0, F, ρ, Dd, f, x, r, q, k⟩ => ?_
  refine ⟨p, H0, F0, F, ρ, _, f, x, r, q, fun σ' F' H' ρ' s x' r' ⟨nt, q'⟩ => ?_, k.bk, k.ct, k.rt⟩
  split at q'
  · rename_i ds ei
    obtain ⟨a, vs, es, ea, h0, n, hp, eh, rv⟩ := own_at r' ei
    exact k.nx σ' _ H' _ (s.trans (same_upd n)) (x'.rest h0 eh n) (r'.freeze ei ea n rv nt) q'
  · exact q'.elim
end

/-! ### new lists -/
section
variable {X : Cx} {pos p : Pos} {e : Expr} {es : List Expr} {u : DL_} {t : DT}
def oLst (u : DL_) : DOT := fun ρ Q => u ρ fun ds => ds.length ≤ 16777216 ∧ Q ds
theorem do_lst (h : DLs X es u) : DO X (.List es pos) (oLst u) := by
  refine PE.wk (pe_lst h) fun σ H Q ⟨p, H0, F, ρ, Qd, f, r, q, k⟩ => ?_
  refine ⟨p, H0, F, ρ, _, f, r, q, fun ds vs F' H' x hv hq => ⟨by rw [sl_eq, hv.length]; exact hq.1, fun a ha => ?_⟩⟩
  have f' := x.fit f
  have n0 := x.new0 f ha
  exact k ds (.ref a) F' _ (x.trans f (Ext.junk f' ha)) ⟨a, vs, rfl, n0.1, f'.none ha, n0.2, upd_same, hv⟩ hq.2
/-- list(x) of a list, a tuple -/
def oList (u : DL_) : DOT := fun ρ Q => u ρ fun ds => match ds with | [.list xs] => Q xs | [.tuple xs] => Q xs | _ => False
theorem do_list (hm : X.mg "list" = none) (ha : DLs X [e] u) (hg : Gl X "list" := by rfl) (hv : bootBuiltins "list" = some (.type "list") := by decide +kernel)
    (he : starEach [e] X.env = (false, eval e X.env) :: starEach [] X.env := by rfl) (hpl : (backTo pos (starEach [] X.env)).any (·.1) = false := by rfl) : DO X (.Call (.Name "list" p) [e] [] pos) (oList u) := by
  refine PE.wk (pe_callTy call_list_of hg hm hv ha (by decide) (by decide) he hpl) fun σ H Q ⟨p, H0, F, ρ, Qd, f, r, q, k⟩ => ?_
  refine ⟨p, H0, F, ρ, _, f, r, q, fun ds vs F' H' x hv hq => ?_⟩
  have f' := x.fit f
  have go : ∀ {xs : List PyData} {ys : List V}, DVs (kw X).K F' ys xs → Qd xs → ∀ l, H' l = none → Q (.ref l) (upd H' l (.lst ys)) := fun {xs ys} hr hq l hl =>
    k xs (.ref l) F' _ (x.trans f (Ext.junk f' hl)) ⟨l, ys, rfl, (x.new0 f hl).1, f'.none hl, (x.new0 f hl).2, upd_same, hr⟩ hq
  split at hq
  · cases hv with
    | cons h t => cases t; cases h with | lst h1 h2 => exact ⟨_, _, rfl, .inl (sql_same x.fh h1), go h2 hq⟩
  · cases hv with
    | cons h t => cases t; cases h with | tup h1 h2 => exact ⟨_, _, rfl, .inr (sqt_same x.fh h1), go h2 hq⟩
  · exact hq.elim
/-- list(range(n)) -/
def oListRg (t : DT) : DOT := fun ρ Q => t ρ fun d => match d with | .int j => (0 ≤ j ∧ j ≤ 1000) ∧ Q (rgD 0 j.toNat) | _ => False
theorem do_listRg {q : Pos} {a : Expr} (hc : X.calm = true) (hm : X.mg "list" = none) (hr : X.mg "range" = none) (ha : DE X a t) (hg : Gl X "list" := by rfl) (hg2 : Gl X "range" := by rfl) (na : starEach [a] X.env = (false, eval a X.env) :: starEach [] X.env := by rfl)
    (na2 : starEach [.Call (.Name "range" q) [a] [] pos] X.env = (false, eval (.Call (.Name "range" q) [a] [] pos) X.env) :: starEach [] X.env := by rfl) {pos2 : Pos} : DO X (.Call (.Name "list" p) [.Call (.Name "range" q) [a] [] pos] [] pos2) (oListRg t) := by
  refine PE.wk (pe_listRg hc hg hm (prg_1 hg2 hr ha na) na2) fun σ H Q ⟨p, H0, F, ρ, Qd, f, r, w, k⟩ => ?_
  refine ⟨p, H0, F, ρ, _, f, r, w, fun d v F' H' x hv hq => ?_⟩
  cases d with
  | int j =>
    cases hv
    obtain ⟨⟨j0, j1⟩, hq⟩ := hq
    have f' := x.fit f
    refine ⟨j, rfl, .of_le (by omega) (by omega) (by omega) j0, fun l hl => ?_⟩
    have e : DVs (kw X).K F' (rgV 0 j) (rgD 0 j.toNat) := by
      have z : rgV 0 j = ((List.range j.toNat).map fun i => (0 : Int) + (i : Nat)).map V.int := by
        unfold rgV; rw [List.map_map, Int.sub_zero]; rfl
      have z2 : rgD 0 j.toNat = ((List.range j.toNat).map fun i => (0 : Int) + (i : Nat)).map PyData.int := by
        unfold rgD; rw [List.map_map]; rfl
      rw [z, z2]
      exact DVs.of_ints _
    exact k _ (.ref l) F' _ (x.trans f (Ext.junk f' hl)) ⟨l, _, rfl, (x.new0 f hl).1, f'.none hl, (x.new0 f hl).2, upd_same, e⟩ hq
  | _ => exact hq.elim
/-- tuple of an own list -/
def dTupOwn (i : Nat) : DT := fun ρ Q => match ρ[i]? with | some (.own ds) => Q (.tuple ds) | _ => False
theorem de_tupOwn (i : Nat) {y : Str} {p' : Pos} (hm : X.mg "tuple" = none) (hi : X.N[i]? = some y := by rfl) (hv : Vis X.env.scope y := by first | exact Or.inl rfl | exact Or.inr (Or.inl rfl) | exact Or.inr (Or.inr rfl)) (hd : (y == ("__debug__" : Str)) = false := by decide) (hcd : (y == ("__classdict__" : Str)) = false := by decide)
    (hg : Gl X "tuple" := by rfl) (hv2 : bootBuiltins "tuple" = some (.type "tuple") := by decide +kernel) (he : starEach [.Name y p'] X.env = (false, eval (.Name y p') X.env) :: starEach [] X.env := by rfl) (hpl : (backTo pos (starEach [] X.env)).any (·.1) = false := by rfl) :
    DE X (.Call (.Name "tuple" p) [.Name y p'] [] pos) (dTupOwn i) := by
  refine PE.wk (pe_callTy call_tuple_of hg hm hv2 (pa_cons (pe_var hi hv hd hcd) pa_nil he) (by decide) (by decide) he hpl) fun σ H Q ⟨p, H0, F, ρ, Qd, f, r, q, k⟩ => ?_
  unfold dTupOwn at q
  split at q
  · rename_i ds ei
    obtain ⟨a, vs, es, ea, h0, n, hp, eh, rv⟩ := own_at r ei
    refine ⟨.ref a, es, a, vs, rfl, .inl ⟨.of eh, fun l hl => ?_⟩⟩
    have x := Ext.new f (o := .tup vs) hl
    exact k _ _ _ _ x (.tup (.of upd_same) (rv.mono x.ff)) q
  · exact q.elim
end
end DL


namespace DL
open PySem PySem.Spec PyProof.Rows L2

def argSl : Arg → Sl
  | .d x => .dat x
  | .p => .pot
def startD (n : Nat) (as : List Arg) : Rho := as.map argSl ++ List.replicate (n - as.length) .emp
theorem rep_start {k : Kw} {p : Option Addr} {F H : Hp} {N : List Str} : ∀ {vs : List V} {as : List Arg}, ArgsOk k p F vs as → Rep k p H F H (L2.start N vs) (startD N.length as) := by
  intro vs as h
  have l := h.length
  refine ⟨by simp [L2.start, startD, l], fun i sl e => ?_, fun i j ds es a e1 => ?_⟩
  · unfold startD at e
    by_cases hi : i < as.length
    · rw [List.getElem?_append_left (by simpa using hi), List.getElem?_map] at e
      rcases h.get (i := i) with ⟨_, h2⟩ | ⟨v, a, h1, h2, h3⟩
      · rw [h2] at e; cases e
      · rw [h2] at e
        cases e
        have es : slv (L2.start N vs) i = some v := by
          apply slv_eq
          unfold L2.start
          rw [List.getElem?_append_left (by simp [l, hi]), List.getElem?_map, h1]
          rfl
        rw [es]
        cases h3 with
        | d h => exact ⟨v, rfl, h⟩
        | p h => exact ⟨_, rfl, h⟩
    · rw [List.getElem?_append_right (by simpa using hi), List.getElem?_replicate] at e
      split at e
      · cases e; trivial
      · cases e
  · unfold startD at e1
    by_cases hi : i < as.length
    · rw [List.getElem?_append_left (by simpa using hi), List.getElem?_map] at e1
      cases q : as[i]? with
      | none => rw [q] at e1; cases e1
      | some b => rw [q] at e1; cases b <;> cases e1
    · rw [List.getElem?_append_right (by simpa using hi), List.getElem?_replicate] at e1
      split at e1 <;> cases e1
/-- a def by what its body makes of data -/
theorem fn_dl {P : Program} {w : World} {K : PySem.W.Frag} {mg : Str → Option Value} {base : Heap} {k : Nat} {x qual : Str} {st : Stmt} {f : Addr} {fd : FuncData} {N ps : List Str} {df : DF} {t : DS} (F : Fun K x qual st f fd) (S : FnScope N ps (defScope st))
    (hl : ∀ as Q, df as Q → as.length = ps.length)
    (hb : ∀ (cdv : Value) (A : Around) (outer : List Env) (s : Shared) (H : Hp) (E : XK), Rm k (A.deeper (envOfC qual (defScope st) s.heap.objs.size f cdv)) → DPs (cxOf CX0 P w K mg base N qual (defScope st) f cdv A outer s H E).nox (defBody st) t)
    (run : ∀ as Q, df as Q → t { nx := fun _ => Q (.dat .none), rt := Q } (startD N.length as)) : FnG P w K mg base CX0 (k + 1) f fd ps (spD ⟨K, P, w⟩ df) := by
  refine fn_body F S (fun vs H Q E ⟨p, Fr, as, Qd, _, ha, hd, _⟩ => by rw [ha.length]; exact hl as Qd hd) fun cdv A outer s H vs Q E hr ⟨p, Fr, as, Qd, f, ha, hd, c⟩ => ?_
  refine ⟨_, (hb cdv A outer s H E hr).nox, p, H, Fr, Fr, startD N.length as, { nx := fun _ => Qd (.dat .none), rt := Qd }, f, Ext.refl f.sub, rep_start ha, run as Qd hd, ?_⟩
  exact ⟨fun σ' F' H' ρ' _ x _ q => c (.dat .none) .non F' H' x .non q, fun _ _ _ _ _ _ _ q => q.elim, fun _ _ _ _ _ _ _ q => q.elim, fun r v F' H' x hr q => c r v F' H' x hr q⟩

/-! ### a, b = x, y -/
section
variable {X : Cx} {pos px py pt : Pos} {a b : Expr} {kt k2 : Nat} {pt2 : Pos}
/-- what a right side gives: data, or a new own list -/
abbrev DXT := Rho → (Res → Prop) → Prop
def tX (k : Kw) (t : DXT) : TE := fun σ H Q => ∃ p H0 F ρ, ∃ Qd : Res → Prop, Fit p F H ∧ Rep k p H0 F H σ ρ ∧ t ρ Qd ∧ ∀ r v F' H', Ext p F H F' H' → ResOk k p H F' H' v r → Qd r → Q v H'
abbrev DX (X : Cx) (e : Expr) (t : DXT) : Prop := PE X e (tX (kw X) t)
def xD (t : DT) : DXT := fun ρ Q => t ρ fun d => Q (.dat d)
def xO (t : DOT) : DXT := fun ρ Q => t ρ fun ds => Q (.own ds)
theorem dx_d {e : Expr} {t : DT} (h : DE X e t) : DX X e (xD t) := PE.wk h fun σ H Q ⟨p, H0, F, ρ, Qd, f, r, q, k⟩ => ⟨p, H0, F, ρ, _, f, r, q, fun d v F' H' x hv hq => k (.dat d) v F' H' x hv hq⟩
theorem dx_o {e : Expr} {t : DOT} (h : DO X e t) : DX X e (xO t) := PE.wk h fun σ H Q ⟨p, H0, F, ρ, Qd, f, r, q, k⟩ => ⟨p, H0, F, ρ, _, f, r, q, fun d v F' H' x hv hq => k (.own d) v F' H' x hv hq⟩
def Res.sl : Res → Sl
  | .dat d => .dat d
  | .own ds => .own ds
def dPar (i j : Nat) (t u : DXT) : DS := fun D ρ => t ρ fun r1 => u ρ fun r2 => D.nx ((ρ.set i r1.sl).set j r2.sl)
theorem ResOk.ext {k : Kw} {p : Option Addr} {H F1 H1 F2 H2 : Hp} {v : V} {r : Res} (h : ResOk k p H F1 H1 v r) (x : Ext p F1 H1 F2 H2) : ResOk k p H F2 H2 v r := by
  cases r with
  | dat d => exact DV.mono x.ff h
  | own ds =>
    obtain ⟨a, vs, e, h0, n, hp, eh, rv⟩ := h
    exact ⟨a, vs, e, h0, x.fr a _ eh n, hp, x.hh a _ hp eh, rv.mono x.ff⟩
theorem Rep.put {k : Kw} {p : Option Addr} {H0 F0 F1 H1 F H : Hp} {σ : Sg} {ρ : Rho} (f : Fit p F0 H0) (x0 : Ext p F0 H0 F1 H1) (r : Rep k p H0 F H σ ρ) (i : Nat) {v : V} {z : Res} (hz : ResOk k p H1 F H v z)
    (new : ∀ a, v = .ref a → H1 a = none → ∀ j es, j ≠ i → ρ[j]? = some (.own es) → slv σ j ≠ some (.ref a)) : Rep k p H0 F H (σ.set i (some v)) (ρ.set i z.sl) := by
  cases z with
  | dat d => exact r.set i (some v) (sl := .dat d) ⟨v, rfl, hz⟩ (fun ds z => by cases z)
  | own ds =>
    obtain ⟨a, vs, rfl, h0, n, hp, eh, rv⟩ := hz
    exact r.setOwn i (x0.new0 f h0).1 n hp eh rv (new a rfl h0)
theorem ds_par (i j : Nat) {y z : Str} {t u : DXT} (hc : X.calm = true) (hN : X.N.Nodup) (ha : DX X a t) (hb : DX X b u) (hij : i ≠ j := by decide) (hi : X.N[i]? = some y := by rfl) (hj : X.N[j]? = some z := by rfl)
    (hy : X.env.scope.names.lookup y = some .local := by rfl) (hz : X.env.scope.names.lookup z = some .local := by rfl)
    (hw : swappedStores [.Tuple [.Name y px, .Name z py] kt pt] (.Tuple [a, b] k2 pt2) X.env = pure (some [y, z]) := by rfl)
    (hs : swapsWithSole [.Tuple [.Name y px, .Name z py] kt pt] (.Tuple [a, b] k2 pt2) pos.line X.env = pure false := by rfl)
    (e1 : starEach [a, b] X.env = (false, eval a X.env) :: starEach [b] X.env := by rfl) (e2 : starEach [b] X.env = (false, eval b X.env) :: starEach [] X.env := by rfl) :
    DP X (.Assign [.Tuple [.Name y px, .Name z py] kt pt] (.Tuple [a, b] k2 pt2) pos) (dPar i j t u) := by
  refine PS.wk (ps_par hc hN hi hj hij hy hz (pa_cons ha (pa_cons hb pa_nil e2) e1) hw hs) fun D σ H ⟨p, H0, F0, F, ρ, Dd, f, x, r, q, k⟩ => ?_
  refine ⟨p, H0, F, ρ, _, x.fit f, r, q, fun r1 v1 F1 H1 y1 z1 q1 => ?_⟩
  have x1 := x.trans f y1
  refine ⟨p, H0, F1, ρ, _, x1.fit f, r.ext y1, q1, fun r2 v2 F2 H2 y2 z2 q2 => ?_⟩
  have x2 := x1.trans f y2
  refine ⟨v1, v2, rfl, k.nx _ F2 H2 _ (y1.ff.trans y2.ff) x2 ?_ q2⟩
  have z1' := z1.ext y2
  have r0 := (r.ext y1).ext y2
  have ra : Rep (kw X) p H0 F2 H2 (σ.set i (some v1)) (ρ.set i r1.sl) := r0.put f x i z1' fun a ea h0 j es nj e => by
    obtain ⟨b, vs, eb, _, _, _, hb, _⟩ := r.all j _ e
    intro w
    rw [w] at eb
    cases eb
    rw [h0] at hb; cases hb
  refine ra.put f x1 j z2 fun a ea h0 l es nl e w => ?_
  by_cases hl : i = l
  · subst hl
    have hi' : i < ρ.length := by
      have := (List.getElem?_eq_some_iff.mp e).1
      simpa using this
    rw [slv_set_same (by rw [r.len]; exact hi')] at w
    cases w
    rw [List.getElem?_set_self hi'] at e
    have e' := Option.some.inj e
    cases r1 with
    | dat d => cases e'
    | own ds =>
      obtain ⟨b, vs, eb, _, _, _, hb, _⟩ := z1
      cases eb
      rw [h0] at hb; cases hb
  · rw [List.getElem?_set_ne hl] at e
    rw [slv_set_ne hl] at w
    obtain ⟨b, vs, eb, _, _, _, hb, _⟩ := (r.ext y1).all l _ e
    rw [w] at eb
    cases eb
    rw [h0] at hb; cases hb
end

/-! ### x += e (whole numbers), x[i] = e, x[i], x[j] = x[l], x[m] -/
section
variable {X : Cx} {pos p1 p2 p3 p4 p5 p6 p7 : Pos} {e ei : Expr} {te ti : DT}
def dAugI (i : Nat) (g : Int → Int → Int) (t : DT) : DS := fun D ρ => match ρ[i]? with
  | some (.dat (.int n)) => t ρ fun d => (match d with | .int m => D.nx (ρ.set i (.dat (.int (g n m)))) | _ => False)
  | _ => False
theorem ds_augI (i : Nat) {y : Str} {op : Operator} {g : Int → Int → Int} (ho : PIp X op (ipI g)) (hN : X.N.Nodup) (he : DE X e te) (hi : X.N[i]? = some y := by rfl) (hx : Loc X.env.scope y := by first | exact Or.inl rfl | exact Or.inr rfl)
    (hf : X.fn y = true ∨ X.env.scope.names.lookup y = some .local := by first | exact .inl rfl | exact .inr rfl) : DP X (.AugAssign (.Name y p1) op e pos) (dAugI i g te) := by
  refine PS.wk (ps_aug hN hi hx he ho hf) fun D σ H ⟨p, H0, F0, F, ρ, Dd, f, x, r, q, k⟩ => ?_
  unfold dAugI at q
  split at q
  · rename_i n ei
    obtain ⟨v, ev, hv⟩ := r.all i _ ei
    cases hv
    refine ⟨.int n, slv_of ev, p, H0, F, ρ, _, x.fit f, r, q, fun d v F' H' y hv hq => ?_⟩
    cases d with
    | int m =>
      cases hv
      exact ⟨n, m, rfl, rfl, k.nx _ F' H' _ y.ff (x.trans f y) ((r.ext y).set i (some (.int (g n m))) (sl := .dat (.int (g n m))) ⟨_, rfl, .int _⟩ (fun ds z => by cases z)) hq⟩
    | _ => exact hq.elim
  · exact q.elim
/-- x[e1] = e2 of an own list -/
def dSetIx (i : Nat) (t u : DT) : DS := fun D ρ => t ρ fun d => match ρ[i]? with
  | some (.own ds) => u ρ fun z => (match z with | .int n => (match ixN ds.length n with | some j => noTmp ρ = true ∧ D.nx (ρ.set i (.own (ds.set j d))) | none => False) | _ => False)
  | _ => False
theorem ds_setIx (i : Nat) {y : Str} (he : DE X e te) (hx : DE X ei ti) (hi : X.N[i]? = some y := by rfl) (hv : Vis X.env.scope y := by first | exact Or.inl rfl | exact Or.inr (Or.inl rfl) | exact Or.inr (Or.inr rfl)) (hd : (y == ("__debug__" : Str)) = false := by decide) (hcd : (y == ("__classdict__" : Str)) = false := by decide)
    (ha : ∀ v, assign (.Subscript (.Name y p1) ei p2) X.env v = (do
      let ov ← holding [v] (eval (.Name y p1) X.env)
      let iv ← holding [v, ov] (eval ei X.env)
      standAt p2
      holding [v, ov, iv] (setItem ov iv v)
      release [v, ov, iv] []) := by intro _; rfl)
    (hs : swapsWithSole [.Subscript (.Name y p1) ei p2] e pos.line X.env = pure false := by rfl) (hw : swappedStores [.Subscript (.Name y p1) ei p2] e X.env = pure none := by rfl)
    (h1 : (assignEach [.Subscript (.Name y p1) ei p2] X.env).map (·.2) = [assign (.Subscript (.Name y p1) ei p2) X.env] := by rfl) : DP X (.Assign [.Subscript (.Name y p1) ei p2] e pos) (dSetIx i te ti) := by
  refine PS.wk (ps_asg he (pg_sub (pe_var hi hv hd hcd) hx set_list ha) hs hw h1) fun D σ H ⟨p, H0, F0, F, ρ, Dd, f, x, r, q, k⟩ => ?_
  refine ⟨p, H0, F, ρ, _, x.fit f, r, q, fun d v F1 H1 y1 hv1 q1 => ?_⟩
  split at q1
  · rename_i ds ei
    obtain ⟨a, vs, es, ea, h0, n, hp, eh, rv⟩ := own_at (r.ext y1) ei
    refine ⟨.ref a, es, p, H0, F1, ρ, _, y1.fit (x.fit f), r.ext y1, q1, fun z w F2 H2 y2 hw q2 => ?_⟩
    cases z with
    | int m =>
      cases hw
      have q2' : match ixN ds.length m with | some j => noTmp ρ = true ∧ Dd.nx (ρ.set i (.own (ds.set j d))) | none => False := q2
      split at q2'
      · rename_i j ej
        have eh' := y2.hh a _ hp eh
        have n' := y2.fr a _ eh n
        refine ⟨a, vs, m, j, rfl, rfl, eh', by rw [rv.length]; exact ej, ?_⟩
        have x2 := (x.trans f y1).trans f y2
        exact k.nx σ F2 _ _ (y1.ff.trans y2.ff) (x2.write h0 n' hp) (((r.ext y1).ext y2).write ei ea (DVs.set (hv1.mono y2.ff) j (rv.mono y2.ff)) q2'.1) q2'.2
      · exact q2'.elim
    | _ => exact q2.elim
  · exact q1.elim
/-- the items of one own list change places -/
def dSwap (i : Nat) (a b c d : Nat) : DS := fun D ρ => match ρ[i]?, ρ[a]?, ρ[b]?, ρ[c]?, ρ[d]? with
  | some (.own ds), some (.dat (.int na)), some (.dat (.int nb)), some (.dat (.int nc)), some (.dat (.int nd)) => (match atI ds na, atI ds nb, ixN ds.length nc, ixN ds.length nd with
    | some x, some y, some jc, some jd => noTmp ρ = true ∧ D.nx (ρ.set i (.own ((ds.set jc x).set jd y)))
    | _, _, _, _ => False)
  | _, _, _, _, _ => False
theorem ixN_set {vs : List V} {n : Int} {j : Nat} {v : V} : ixN (vs.set j v).length n = ixN vs.length n := by rw [List.length_set]
/-- y[c], y[d] = (y[a], y[b]) -/
theorem ds_swap (i ia ib ic id : Nat) {y na nb nc nd : Str} {k1 k2 : Nat} {q1 q2 q3 q4 q5 q6 q7 q8 q9 q10 q11 q12 q13 q14 : Pos} (hc : X.calm = true)
    (hi : X.N[i]? = some y := by rfl) (hia : X.N[ia]? = some na := by rfl) (hib : X.N[ib]? = some nb := by rfl) (hic : X.N[ic]? = some nc := by rfl) (hid : X.N[id]? = some nd := by rfl)
    (hv : Vis X.env.scope y := by first | exact Or.inl rfl | exact Or.inr (Or.inl rfl) | exact Or.inr (Or.inr rfl)) (hva : Vis X.env.scope na := by first | exact Or.inl rfl | exact Or.inr (Or.inl rfl) | exact Or.inr (Or.inr rfl))
    (hvb : Vis X.env.scope nb := by first | exact Or.inl rfl | exact Or.inr (Or.inl rfl) | exact Or.inr (Or.inr rfl)) (hvc : Vis X.env.scope nc := by first | exact Or.inl rfl | exact Or.inr (Or.inl rfl) | exact Or.inr (Or.inr rfl))
    (hvd : Vis X.env.scope nd := by first | exact Or.inl rfl | exact Or.inr (Or.inl rfl) | exact Or.inr (Or.inr rfl))
    (dy : (y == ("__debug__" : Str)) = false := by decide) (da : (na == ("__debug__" : Str)) = false := by decide) (db : (nb == ("__debug__" : Str)) = false := by decide) (dc : (nc == ("__debug__" : Str)) = false := by decide) (dd : (nd == ("__debug__" : Str)) = false := by decide)
    (cy : (y == ("__classdict__" : Str)) = false := by decide) (ca : (na == ("__classdict__" : Str)) = false := by decide) (cb : (nb == ("__classdict__" : Str)) = false := by decide) (cc : (nc == ("__classdict__" : Str)) = false := by decide) (cd : (nd == ("__classdict__" : Str)) = false := by decide)
    (hs : swapsWithSole [.Tuple [.Subscript (.Name y q1) (.Name nc q2) q3, .Subscript (.Name y q4) (.Name nd q5) q6] k1 q7] (.Tuple [.Subscript (.Name y q8) (.Name na q9) q10, .Subscript (.Name y q11) (.Name nb q12) q13] k2 q14) pos.line X.env = pure false := by rfl)
    (hw : swappedStores [.Tuple [.Subscript (.Name y q1) (.Name nc q2) q3, .Subscript (.Name y q4) (.Name nd q5) q6] k1 q7] (.Tuple [.Subscript (.Name y q8) (.Name na q9) q10, .Subscript (.Name y q11) (.Name nb q12) q13] k2 q14) X.env = pure none := by rfl) :
    DP X (.Assign [.Tuple [.Subscript (.Name y q1) (.Name nc q2) q3, .Subscript (.Name y q4) (.Name nd q5) q6] k1 q7] (.Tuple [.Subscript (.Name y q8) (.Name na q9) q10, .Subscript (.Name y q11) (.Name nb q12) q13] k2 q14) pos) (dSwap i ia ib ic id) := by
  refine PS.wk (ps_asg (pe_tup (pa_cons (pe_ix ix_list (pe_var hi hv dy cy) (pe_var hia hva da ca) (fun _ _ => rfl)) (pa_cons (pe_ix ix_list (pe_var hi hv dy cy) (pe_var hib hvb db cb) (fun _ _ => rfl)) pa_nil (by rfl)) (by rfl)))
    (pg_tup hc (pgs_cons (pg_sub (pe_var hi hv dy cy) (pe_var hic hvc dc cc) set_list) (pgs_cons (pg_sub (pe_var hi hv dy cy) (pe_var hid hvd dd cd) set_list) pgs_nil))) hs hw) fun D σ H ⟨p, H0, F0, F, ρ, Dd, f, x, r, q, k⟩ => ?_
  unfold dSwap at q
  split at q
  · rename_i ds ma mb mc md ei ea eb ec ed
    split at q
    · rename_i u v jc jd eu ev ejc ejd
      obtain ⟨nt, q⟩ := q
      obtain ⟨a, vs, es, ea', h0, n, hp, eh, rv⟩ := own_at r ei
      have int_at : ∀ {j : Nat} {m : Int}, ρ[j]? = some (.dat (.int m)) → σ[j]? = some (some (.int m)) := fun {j m} e => by
        obtain ⟨w, ew, hw⟩ := r.all j _ e
        cases hw
        exact slv_of ew
      obtain ⟨wu, e1, r1⟩ := atI_rel rv eu
      obtain ⟨wv, e2, r2⟩ := atI_rel rv ev
      refine ⟨_, es, _, int_at ea, ⟨a, vs, ma, wu, rfl, rfl, .of eh, e1, ?_⟩⟩
      refine ⟨_, es, _, int_at eb, ⟨a, vs, mb, wv, rfl, rfl, .of eh, e2, ?_⟩⟩
      refine ⟨by rw [sl_eq]; show 2 ≤ 16777216; decide, fun T hT => ?_⟩
      have naT : a ≠ T := ne_of_none eh hT
      refine ⟨T, [wu, wv], rfl, .of upd_same, rfl, wu, [wv], rfl, _, es, _, int_at ec, a, vs, mc, jc, rfl, rfl, by rw [upd_ne naT]; exact eh, by rw [rv.length]; exact ejc, ?_⟩
      refine ⟨wv, [], rfl, _, es, _, int_at ed, a, vs.set jc wu, md, jd, rfl, rfl, upd_same, by rw [List.length_set, rv.length]; exact ejd, rfl, ?_⟩
      rw [upd_upd]
      have fx := x.fit f
      have j := Ext.junk fx (o := .tup [wu, wv]) hT
      exact k.nx σ F _ _ (Same.refl _) ((x.trans f j).write h0 n hp) ((r.ext j).write ei ea' (DVs.set r2 jd (DVs.set r1 jc rv)) nt) q
    · exact q.elim
  · exact q.elim
end
end DL


namespace DL
open PySem PySem.Spec PyProof.Rows L2

/-! ### defs of the text by name -/
/-- the def st stands at the module's name x -/
def At (K : PySem.W.Frag) (mg : Str → Option Value) (x : String) (st : Stmt) : Prop := ∃ a fd, mg x = some (.ref a) ∧ Fun K (Str.ofString x) (Str.ofString x) st a fd
/-- .. and makes of data what df says -/
def Good (P : Program) (w : World) (K : PySem.W.Frag) (mg : Str → Option Value) (base : Heap) (x : String) (st : Stmt) (k : Nat) (ps : List Str) (df : DF) : Prop :=
  ∃ a fd, mg x = some (.ref a) ∧ Fun K (Str.ofString x) (Str.ofString x) st a fd ∧ Binds K fd ps [] ∧ FnG P w K mg base CX0 k a fd ps (spD ⟨K, P, w⟩ df)
section
variable {P : Program} {w : World} {K : PySem.W.Frag} {mg : Str → Option Value} {base : Heap} {x : String} {st : Stmt} {k : Nat} {ps N : List Str} {df : DF} {t : DS}
theorem good_mk (h : At K mg x st) (S : FnScope N ps (defScope st))
    (hbd : ∀ (kV doc pm : Value) (an : Option Addr) (cdv ct : Value) (us : List Value), us.length = ps.length → bindArgs (PySem.W.fnOf x x (defArgs st) (defBody st) (defScope st) .none kV doc pm an cdv ct) ⟨us, []⟩ = pure (ps.zip us))
    (hl : ∀ as Q, df as Q → as.length = ps.length)
    (hb : ∀ (f : Addr) (cdv : Value) (A : Around) (outer : List Env) (s : Shared) (H : Hp) (E : XK), Rm k (A.deeper (envOfC x (defScope st) s.heap.objs.size f cdv)) → DPs (cxOf CX0 P w K mg base N x (defScope st) f cdv A outer s H E).nox (defBody st) t)
    (run : ∀ as Q, df as Q → t { nx := fun _ => Q (.dat .none), rt := Q } (startD N.length as)) : Good P w K mg base x st (k + 1) ps df := by
  obtain ⟨a, fd, hm, F⟩ := h
  exact ⟨a, fd, hm, F, F.binds hbd, fn_dl F S hl (fun cdv A outer s H E hr => hb a cdv A outer s H E hr) run⟩
/-- a stronger promise gives a weaker one -/
theorem Good.imp {df' : DF} (g : Good P w K mg base x st k ps df) (h : ∀ as Q, df' as Q → df as Q) : Good P w K mg base x st k ps df' := by
  obtain ⟨a, fd, hm, F, b, G⟩ := g
  refine ⟨a, fd, hm, F, b, ⟨fun vs H Q E ⟨p, Fr, as, Qd, f, ha, hd, c⟩ => G.len vs H Q E ⟨p, Fr, as, Qd, f, ha, h as Qd hd, c⟩, fun A outer s H args us vs Q E hr e0 hb r ⟨p, Fr, as, Qd, f, ha, hd, c⟩ => ?_⟩⟩
  exact G.run A outer s H args us vs Q E hr e0 hb r ⟨p, Fr, as, Qd, f, ha, h as Qd hd, c⟩
end
section
variable {X : Cx} {k : Nat} {ps ks : List Str} {df : DF} {x : String} {st : Stmt} {p pos : Pos} {e : Expr} {es : List Expr} {kws : List Keyword} {t tk : DAT}
theorem de_callG (G : Good X.prog X.w X.K X.mg X.base x st k ps df) (hr : Rm k X.A) (ha : DA X (e :: es) t)
    (hg : Gl X x := by rfl) (hdb : ((Str.ofString x) == ("__debug__" : Str)) = false := by decide) (he : starEach (e :: es) X.env = (false, eval e X.env) :: starEach es X.env := by rfl) (hpl : (backTo pos (starEach es X.env)).any (·.1) = false := by rfl) :
    DE X (.Call (.Name x p) (e :: es) [] pos) (dCall df t) := by
  obtain ⟨a, fd, hm, F, b, G⟩ := G
  exact de_call G hr hm F.kp b pass0 ha hg hdb he hpl
/-- .. that gives an own list -/
def oCall (df : DF) (t : DAT) : DOT := fun ρ Q => t ρ fun as => df as fun r => match r with | .own ds => Q ds | .dat _ => False
theorem do_callG (G : Good X.prog X.w X.K X.mg X.base x st k ps df) (hr : Rm k X.A) (ha : DA X (e :: es) t)
    (hg : Gl X x := by rfl) (hdb : ((Str.ofString x) == ("__debug__" : Str)) = false := by decide) (he : starEach (e :: es) X.env = (false, eval e X.env) :: starEach es X.env := by rfl) (hpl : (backTo pos (starEach es X.env)).any (·.1) = false := by rfl) :
    DO X (.Call (.Name x p) (e :: es) [] pos) (oCall df t) := by
  obtain ⟨a, fd, hm, F, b, G⟩ := G
  refine ⟨fun pins s σ H Q I ⟨p', H0, Fr, ρ, Qd, f, r, q, c⟩ => ?_⟩
  have h2 : tDA (kw X) t σ H fun vs H1 => spD (kw X) df vs H1 Q E0 := by
    refine ⟨p', H0, Fr, ρ, _, f, r, q, fun as vs F' H' x hv hq => ?_⟩
    refine ⟨p', F', as, _, x.fit f, hv, hq, fun z v F2 H2 x2 v2 q2 => ?_⟩
    cases z with
    | dat d => exact q2.elim
    | own ds => exact c ds v F2 H2 (x.trans f x2) (v2.back f x) q2
  refine wpAny_Call_Name_kw (ld_glob I hg hm ?_ hdb)
  refine PySem.W.callWith_K (h₀ := X.base) I.ok.mod.kin F.kp (thn (ha.run pos pins s σ H _ I h2) fun us s1 ⟨vs, H1, I1, r, q⟩ => ⟨I1.kIn, ?_⟩) he hpl
  have bb : us.length = ps.length → BindsTo s1 fd ⟨us, []⟩ (ps.zip us) := fun hl => by
    have := b s1 us I1.kIn (by rw [List.append_nil]; exact hl)
    rw [List.append_nil] at this
    exact this
  refine wpAny_call (codeAny_mono (run_g G hr bb pass0 I1 r q) fun r s' hq => ?_)
  cases r with
  | error e => exact hq
  | ok fl =>
    cases fl with
    | ret u => exact hq
    | next => exact hq.elim
    | brk => exact hq.elim
    | cont => exact hq.elim
theorem de_callGK {q : List Nat} (G : Good X.prog X.w X.K X.mg X.base x st k ps df) (hr : Rm k X.A)
    (hb : ∀ (kV doc pm : Value) (an : Option Addr) (cdv ct : Value), KB (PySem.W.fnOf x x (defArgs st) (defBody st) (defScope st) .none kV doc pm an cdv ct) ps ks q) (ha : DKw X kws tk)
    (hall : (backToKw pos (keywordEach kws X.env)).all (·.1.isSome) = true := by rfl) (hks : (backToKw pos (keywordEach kws X.env)).filterMap (·.1) = ks := by rfl)
    (hg : Gl X x := by rfl) (hdb : ((Str.ofString x) == ("__debug__" : Str)) = false := by decide) (hpl : ((backTo pos (starEach [] X.env)).any (·.1) || (backToKw pos (keywordEach kws X.env)).any (·.1.isNone)) = false := by rfl) :
    DE X (.Call (.Name x p) [] kws pos) (dCallK df q ks.length tk) := by
  obtain ⟨a, fd, hm, F, b, G⟩ := G
  obtain ⟨oc, od, kV, doc, pm, an, cdv, ct, osl, efd, _, _⟩ := id F.ex
  subst efd
  exact de_callK G hr hm F.kp (hb kV doc pm an cdv ct) pass0 ha hall hks hg hdb hpl
theorem de_gI {i : Int} (hm : ∃ t, X.mg x = some (.int i t)) (hg : Gl X x := by rfl) (hd : ((Str.ofString x) == ("__debug__" : Str)) = false := by decide) : DE X (.Name x pos) (dK (.int i)) := by
  obtain ⟨t, h⟩ := hm
  exact de_globI h hg hd
theorem de_gS {i : Str} (hm : ∃ t, X.mg x = some (.str i t)) (hg : Gl X x := by rfl) (hd : ((Str.ofString x) == ("__debug__" : Str)) = false := by decide) : DE X (.Name x pos) (dK (.str i)) := by
  obtain ⟨t, h⟩ := hm
  exact de_globS h hg hd
end
end DL


/-! enumerate of a tuple; sorted of a tuple of ints -/
namespace DLT
open PySem
open Sem (wp)
open AutoSeq1 (wpAny_loadPart')
theorem meets_enumerate_newT (l : Addr) (items : Array Value) (n : Nat) (dct : Option Addr) (sl : Array (Option Value)) :
    Meets (Builtin.«enumerate.__new__» ⟨[.type "enumerate", .ref l], []⟩) (fun _ R s => s.heap.get? l = some { cls := .type "tuple", dict := dct, data := .seq items n, slots := sl } ∧
      R (.ok (.ret (.ref (s.heap.push { cls := .type "tuple_iterator", data := .fields #[.ref l, .int 0 0] }).objs.size)))
        { s with heap := (s.heap.push { cls := .type "tuple_iterator", data := .fields #[.ref l, .int 0 0] }).push { cls := .type "enumerate", data := .fields #[.none, .bool false, .ref s.heap.objs.size, rawInt 0, .none, .none] } }) :=
  .of_wp fun prog w A R s h => by
    obtain ⟨hp, g, d, tk, os⟩ := s; obtain ⟨hl, h⟩ := h
    have hsub := sub_enumerate
    have hL : Heap.IsTuple (Shared.heap ⟨hp, g, d, tk, os⟩) l items := ⟨_, hl, rfl, n, rfl⟩
    wp_walk using wpAny_loadPart' hl
    refine wpAny_stack_any fun st => wpAny_pure ?_
    split
    · rename_i c _ _ _ _ _
      cases (c == Value.type "enumerate")
      · wp_walk using wpAny_loadPart' hl, wpAny_pyIter_tuple hL
        exact ⟨_, rfl, h⟩
      · wp_walk using wpAny_loadPart' hl, wpAny_pyIter_tuple hL
        exact ⟨_, rfl, h⟩
    · wp_walk using wpAny_loadPart' hl, wpAny_pyIter_tuple hL
      exact ⟨_, rfl, h⟩
section
variable {prog : Program} {w : World} {A : Around} {E : Value → Shared → Prop} {s : Shared}
theorem call_enumerate_tuple {l : Addr} {items : Array Value} {Q : Value → Shared → Prop} (hL : s.heap.IsTuple l items)
    (h : ∀ h', IsEnum h' (s.heap.objs.size + 1) s.heap.objs.size 0 .none → h'.IsTupleIter s.heap.objs.size l 0 → h'.objs.size = s.heap.objs.size + 2 →
      (∀ b o, s.heap.get? b = some o → h'.get? b = some o) → Q (.ref (s.heap.objs.size + 1)) { s with heap := h' }) :
    wpAny (model prog w) A (call (.type "enumerate") [.ref l]) Q E s := by
  obtain ⟨⟨c, dct, dt, sl⟩, hl, hc, n, hd⟩ := hL
  replace hc : c = .type "tuple" := hc
  replace hd : dt = .seq items n := hd
  subst hc hd
  refine callType_new F.called_enumerate (by decide) (F.typeCall_enumerate_1 _) (F.newCall_enumerate_1 _) (fun obj => F.args_object_init_2 obj _) F.entry_enumerate_new
    (meets_enumerate_newT l items n dct sl) ⟨hl, ?_⟩
  have hz : (s.heap.push { cls := .type "tuple_iterator", data := .fields #[.ref l, .int 0 0] }).objs.size = s.heap.objs.size + 1 := Heap.size_push ..
  show _ ∧ _
  rw [hz]
  have he : IsEnum ((s.heap.push { cls := .type "tuple_iterator", data := .fields #[.ref l, .int 0 0] }).push
      { cls := .type "enumerate", data := .fields #[.none, .bool false, .ref s.heap.objs.size, rawInt 0, .none, .none] }) (s.heap.objs.size + 1) s.heap.objs.size 0 .none := by
    have := Heap.get?_push_size (s.heap.push { cls := .type "tuple_iterator", data := .fields #[.ref l, .int 0 0] })
      (o := { cls := .type "enumerate", data := .fields #[.none, .bool false, .ref s.heap.objs.size, rawInt 0, .none, .none] }) rfl
    rw [hz] at this; exact this
  refine ⟨⟨_, he, rfl⟩, h _ he ⟨_, Heap.get?_push_of_some _ (Heap.get?_push_size _ rfl), rfl, rfl⟩ (by rw [Heap.size_push, hz]) fun b o x => Heap.get?_push_of_some _ (Heap.get?_push_of_some _ x)⟩
end
end DLT
namespace DL
open PySem PySem.Spec PyProof.Rows L2
def IteT (K : PySem.W.Frag) (a : Addr) : It :=
  ⟨fun i H => ∃ (xs : List V) (x : V), SqT K H a xs ∧ xs[i]? = some x, fun i H v H' => ∃ T x, v = .ref T ∧ H T = none ∧ H' = upd H T (.tup [.int (i : Nat), x]) ∧ ∀ xs, SqT K H a xs → xs[i]? = some x, fun i H => ∃ xs : List V, SqT K H a xs ∧ xs.length ≤ i⟩
theorem turn_enumT {P : Program} {w : World} {K : PySem.W.Frag} {elts : List Expr} {kk : Nat} {tpos : Pos} (a e it : Addr) :
    Turn P w K (.Tuple elts kk tpos) (IteT K a) [e, it] e (fun i h => (∃ old, IsEnum h e it ((i : Nat) : Int) old) ∧ h.IsTupleIter it a i ∧ e ≠ it ∧ e ≠ a ∧ a ≠ it) where
  mem := by simp
  obj := fun i h st b hb => by
    obtain ⟨⟨old, he⟩, ⟨o, ho, hc, hd⟩, _⟩ := st
    have e' : b = e ∨ b = it := by simpa using hb
    rcases e' with z | z
    · rw [z]; exact ⟨_, he, fun v q => nomatch q⟩
    · rw [z]; exact ⟨o, ho, fun v q => by rw [hd] at q; cases q⟩
  keep := fun i h h' st k => let ⟨⟨old, he⟩, hi, hne⟩ := st; ⟨⟨old, k e (by simp) _ he⟩, hi.at fun o q => k it (by simp) o q, hne⟩
  item := by
    intro X hP hw hK hc i pins s σ H E I hf st hg
    subst hP hw hK
    obtain ⟨⟨old, he⟩, hit, hne, hea, hai⟩ := st
    obtain ⟨xs, x, hq, hx⟩ := hg
    obtain ⟨its, rv, p, hz⟩ := I.tuple hq
    obtain ⟨u, hu, ru⟩ := rv.get hx
    have hel : e < s.heap.objs.size := Heap.lt_size he
    have hil : it < s.heap.objs.size := by obtain ⟨_, q, _⟩ := hit; exact Heap.lt_size q
    have hh : X.A.in1.handled = none := I.ok.hd hc
    have hlt : i < its.toArray.size := by simpa using (List.getElem?_eq_some_iff.mp hu).1
    refine wpAny_pyNext_enum_itemD (Draws.tuple hh it a hai its.toArray) he ⟨hit, p⟩ hlt hne (by simp [hne, hea]) fun x' h' tk hP' ho hst hT hsz hk => ?_
    have ex : x' = u := by
      have e1 : its.toArray[i]? = some u := by simpa using hu
      rw [e1] at hP'
      exact (Option.some.inj hP').symm
    subst ex
    refine ⟨_, rfl, wpAny_letOwnedTupleGo_enum (s := { s with heap := h', toks := tk + 1 }) ho fun h'' he' sb => ?_⟩
    have hT2 : h''.get? s.heap.objs.size = some { cls := .type "tuple", data := .seq #[.int i tk, x'] } := (sb.2 _ (Nat.ne_of_gt hel)).trans hT
    have new : ObjOk X.prog X.w (upd H s.heap.objs.size (.tup [.int (i : Nat), x])) h'' s.heap.objs.size (.tup [.int (i : Nat), x]) :=
      ⟨by show 2 ≤ sizeLine; decide, [.int i tk, x'], .cons ⟨_, rfl⟩ (.cons ru .nil), ⟨_, hT2, rfl, _, rfl⟩⟩
    have I1 : Inv X pins σ (upd H s.heap.objs.size (.tup [.int (i : Nat), x])) { s with heap := h'', toks := tk + 1 } :=
      I.turnedNew (ch := [e, it]) (fun b ob hb q => (sb.2 b (fun z => hb (by simp [z]))).trans (hk b ob (fun z => hb (by simp [z])) (fun z => hb (by simp [z])) q)) hf (Nat.le_refl _) new
    refine ⟨.ref s.heap.objs.size, _, I1, rfl, ⟨_, x, rfl, I.hok.fresh (Nat.le_refl _), rfl, fun ys hy => by rw [I.tuple_inj hy hq]; exact hx⟩, ⟨⟨x', ?_⟩, hst.1.at fun o q => (sb.2 it (Ne.symm hne)).trans q, hne, hea, hai⟩, fun b hb => ?_⟩
    · have e1 : ((i + 1 : Nat) : Int) = (i : Int) + 1 := by omega
      rw [e1]; exact he'
    · have hb' : b < s.heap.objs.size := by
        have e' : b = e ∨ b = it := by simpa using hb
        rcases e' with z | z
        · rw [z]; exact hel
        · rw [z]; exact hil
      rw [upd_ne (Nat.ne_of_lt hb')]
      exact (hf b hb).1
  done := by
    intro X hP hw hK hc i pins s σ H E I hf st hg
    subst hP hw hK
    obtain ⟨⟨old, he⟩, hit, hne, hea, hai⟩ := st
    obtain ⟨xs, hq, hx⟩ := hg
    obtain ⟨its, rv, p, hz⟩ := I.tuple hq
    obtain ⟨f0, f1, f2, f3, f4, f5⟩ := hf it (by simp)
    have hl := rv.length
    have hh : X.A.in1.handled = none := I.ok.hd hc
    have hT : s.TypeIs (.ref e) "enumerate" := ⟨_, he, rfl⟩
    unfold pyNext
    refine wpAny_bind (wpAny_attempt (wpAny_callSpecial?_slot (name := Str.ofString "__next__") hT F.slot_enumerate_next
      (wpAny_call_entry F.slot_enumerate_next hT F.entry_enumerate_next ?_ (F.args_enumerate_next_1 _))))
    show wpAny _ _ (field (.ref e) 2 >>= _) _ _ _
    refine wpAny_bind (wpAny_field he rfl (x := .ref it) rfl ?_)
    refine wpAny_bind (wpAny_nextOf_tuple_end (items := its.toArray) hh hit p (by simp; omega) fun h' x he' hx' => ?_)
    obtain ⟨o, ho, hc'⟩ := hx'
    refine wpAny_bind (wpAny_isInstance (T := "StopIteration") (b := true) ⟨o, ho, hc'⟩ isSubtype_stop ?_)
    exact wpAny_pure ⟨rfl, I.turned (t' := s.toks) (fun b o hb q => he' b o hb q) f0 f1 f3 f4 f5⟩
  self := fun A i s Q E st h => let ⟨⟨_, he⟩, _⟩ := st; wpAny_pyIter_enum he h
def iEnumA (K : PySem.W.Frag) (ta : TA) : TI := fun σ H R => ta σ H fun vs H1 => ∃ a xs, vs = [.ref a] ∧ ((SqL K H1 a xs ∧ R (Ite K a) H1) ∨ (SqT K H1 a xs ∧ R (IteT K a) H1))
theorem pi_enumA {X : Cx} {e : Expr} {ta : TA} {p pos tpos : Pos} {elts : List Expr} {kk : Nat} (hg : Gl X "enumerate") (hm : X.mg "enumerate" = none) (ha : PA X [e] ta) (hs : starEach [e] X.env = [(false, eval e X.env)] := by rfl) :
    PI X (.Tuple elts kk tpos) (.Call (.Name "enumerate" p) [e] [] pos) (iEnumA X.K ta) := by
  refine ⟨fun pins s σ H R I h => ?_⟩
  refine Call_ (ld_blt I hg hm boot_enumerate (PyProof.Rows.callWith_type1 (thn (ha.run pos pins s σ H _ I h) fun us s1 ⟨vs, H1, I1, r1, q1⟩ => ?_) hs rfl))
  obtain ⟨a, xs, ex, q⟩ := q1
  subst ex
  cases r1 with
  | cons r rr =>
    cases rr
    cases r
    have fresh : ∀ b, b ∈ [s1.heap.objs.size + 1, s1.heap.objs.size] → FpOk X pins H1 b := fun b hb => by
      have e' : b = s1.heap.objs.size + 1 ∨ b = s1.heap.objs.size := by simpa using hb
      have hle : s1.heap.objs.size ≤ b := by
        rcases e' with z | z
        · rw [z]; exact Nat.le_add_right _ _
        · rw [z]; exact Nat.le_refl _
      exact I1.fpOk hle (I1.hok.fresh hle)
    rcases q with ⟨hq, q⟩ | ⟨hq, q⟩
    · obtain ⟨its, rv, p', hz⟩ := I1.list hq
      refine call_enumerate_list p'.isList fun h' he hit hsz hk => wpAny_pyIter_enum he ?_
      have I2 : Inv X pins σ H1 { s1 with heap := h' } := I1.kept (t' := s1.toks) hk
      exact ⟨s1.heap.objs.size + 1, [s1.heap.objs.size + 1, s1.heap.objs.size], _, _, H1, rfl, I2, turn_enum a (s1.heap.objs.size + 1) s1.heap.objs.size, ⟨⟨.none, he⟩, hit, Nat.succ_ne_self _⟩, fresh, q⟩
    · obtain ⟨its, rv, p', hz⟩ := I1.tuple hq
      obtain ⟨oo, hoo, _⟩ := id p'
      have hal : a < s1.heap.objs.size := Heap.lt_size hoo
      refine DLT.call_enumerate_tuple (show s1.heap.IsTuple a its.toArray from p') fun h' he hit hsz hk => wpAny_pyIter_enum he ?_
      have I2 : Inv X pins σ H1 { s1 with heap := h' } := I1.kept (t' := s1.toks) hk
      exact ⟨s1.heap.objs.size + 1, [s1.heap.objs.size + 1, s1.heap.objs.size], _, _, H1, rfl, I2, turn_enumT a (s1.heap.objs.size + 1) s1.heap.objs.size,
        ⟨⟨.none, he⟩, hit, Nat.succ_ne_self _, Nat.ne_of_gt (Nat.lt_succ_of_lt hal), Nat.ne_of_lt hal⟩, fresh, q⟩
/-- pairs (i, x) -/
def enumD : Nat → List PyData → List PyData
  | _, [] => []
  | n, d :: ds => .tuple [.int (n : Nat), d] :: enumD (n + 1) ds
theorem enumD_get : ∀ (n : Nat) (ds : List PyData) (i : Nat), (enumD n ds)[i]? = (ds[i]?).map fun d => .tuple [.int ((n + i : Nat) : Int), d]
  | _, [], _ => by simp [enumD]
  | n, d :: ds, 0 => by simp [enumD]
  | n, d :: ds, i + 1 => by
    have h := enumD_get (n + 1) ds i
    have e : n + 1 + i = n + (i + 1) := by omega
    rw [e] at h
    simp only [enumD, List.getElem?_cons_succ]
    exact h
theorem enumD_length : ∀ (n : Nat) (ds : List PyData), (enumD n ds).length = ds.length
  | _, [] => rfl
  | n, _ :: ds => by simp [enumD, enumD_length (n + 1) ds]
theorem walkD_enum {K : PySem.W.Frag} {p : Option Addr} {F1 : Hp} {J : It} {vs : List V} {ds : List PyData} (hv : DVs K F1 vs ds) {G : Hp → Prop}
    (w : Walk J vs.length G (YPair (fun i => some (.int (i : Nat))) (fun i => vs[i]?))) (hG : ∀ F2 H2, Same F1 F2 → Fit p F2 H2 → G H2) : WalkD K p F1 J (enumD 0 ds) := by
  refine ⟨G, _, by rw [enumD_length, ← hv.length]; exact w, hG, fun i F2 H2 x H3 hi s f y => ?_⟩
  obtain ⟨T, a, b, rfl, hT, rfl, ha, hb⟩ := y
  cases ha
  obtain ⟨e, he, re⟩ := hv.get' hb
  have xx := Ext.new f (o := .tup [.int (i : Nat), b]) hT
  refine ⟨_, .tuple [.int (i : Nat), e], xx, ?_, .tup (.of upd_same) ((DVs.cons (.int _) (.cons (re.mono s) .nil)).mono xx.ff)⟩
  rw [enumD_get, he]
  simp
theorem walk_enumT {K : PySem.W.Frag} {a : Addr} {xs : List V} : Walk (IteT K a) xs.length (fun H => SqT K H a xs) (YPair (fun i => some (.int (i : Nat))) (fun i => xs[i]?)) := by
  refine ⟨fun i _ hi q => ⟨xs, xs[i], q, by simp [hi]⟩, fun _ q => ⟨xs, q, Nat.le_refl _⟩, fun i H v H' _ q y => ?_⟩
  obtain ⟨T, x, h1, h2, h3, h4⟩ := y
  exact ⟨T, .int (i : Nat), x, h1, h2, h3, rfl, h4 xs q⟩
def iEnumD (u : DL_) : DIT := fun ρ Q => u ρ fun zs => match zs with
  | [.list ds] => Q (enumD 0 ds)
  | [.tuple ds] => Q (enumD 0 ds)
  | _ => False
section
variable {X : Cx} {e : Expr} {p' pos tpos : Pos} {u : DL_}
theorem di_enum {elts : List Expr} {kk : Nat} (hm : X.mg "enumerate" = none) (ha : DLs X [e] u) (hg : Gl X "enumerate" := by rfl) (hs : starEach [e] X.env = [(false, eval e X.env)] := by rfl) :
    DI X (.Tuple elts kk tpos) (.Call (.Name "enumerate" p') [e] [] pos) (iEnumD u) := by
  refine PI.wk (pi_enumA hg hm ha hs) fun σ H R ⟨p, H0, F, ρ, Qd, f, r, q, k⟩ => ?_
  refine ⟨p, H0, F, ρ, _, f, r, q, fun zs vs F' H' x hv hq => ?_⟩
  split at hq
  · cases hv with
    | cons h t =>
      cases t
      cases h with
      | @lst a xs _ h1 h2 => exact ⟨a, xs, rfl, .inl ⟨sql_same x.fh h1, k _ _ F' H' x (walkD_enum h2 walk_enum fun F2 H2 s f => sql_same f.sub (sql_same s h1)) hq⟩⟩
  · cases hv with
    | cons h t =>
      cases t
      cases h with
      | @tup a xs _ h1 h2 => exact ⟨a, xs, rfl, .inr ⟨sqt_same x.fh h1, k _ _ F' H' x (walkD_enum h2 walk_enumT fun F2 H2 s f => sqt_same f.sub (sqt_same s h1)) hq⟩⟩
  · exact hq.elim
end

/-! ### sorted -/
section
variable {prog : Program} {w : World} {A : Around} {E : Value → Shared → Prop} {s : Shared}
theorem collect_tuple {l : Addr} {vs : List Value} {Q : List Value → Shared → Prop} (hl : s.heap.IsTuple l vs.toArray)
    (h : Q vs { s with heap := (s.heap.push (seqObj "list" #[] 0)).update s.heap.objs.size (Obj.mapSeq (· ++ vs.toArray)) }) (hsz : vs.length ≤ sizeLine := by size_fits) :
    wpAny (model prog w) A (collect (.ref l)) Q E s := by
  obtain ⟨o, ho, hc, n, hd⟩ := id hl
  unfold collect
  refine wpAny_bind (wpAny_runValue (codeAny_builtin entry_proto_collect' ?_))
  show wpAny _ _ (do again (.builtin "list.__iadd__" ⟨[← newList [], .ref l], []⟩)) _ _ s
  refine wpAny_bind (wpAny_newList (wpAny_pure ⟨Code.quiet_builtin _ (by decide +kernel), codeAny_builtin entry_list_iadd' ?_⟩))
  show wpAny _ _ (Builtin.List.listExtendWith (.ref s.heap.objs.size) (.ref l) (.ref s.heap.objs.size)) _ _ { s with heap := s.heap.push (seqObj "list" #[] 0) }
  unfold Builtin.List.listExtendWith
  have ho' : (s.heap.push (seqObj "list" #[] 0)).get? l = some o := Heap.get?_push_of_some _ ho
  refine wpAny_bind (wpAny_typeOf (T := "tuple") ⟨o, ho', hc⟩ ?_)
  have ht : (Value.type "tuple" == Value.type "tuple") = true := by rfl
  rw [if_pos (by rw [ht]; simp)]
  refine wpAny_bind (listItems_at ho' hd ?_)
  refine wpAny_bind (listItems_at (xs := #[]) (n := 0) (Heap.get?_push_size _ rfl) rfl ?_)
  rw [if_neg (by simp)]
  refine wpAny_bind (listUpdate_at (xs := #[]) (n := 0) (Heap.get?_push_size _ rfl) rfl ?_ (Nat.zero_le _) (by show (#[] ++ vs.toArray).size ≤ sizeLine + 1; simp only [Array.size_append, List.size_toArray, List.length_nil]; omega))
  refine wpAny_pure ?_
  show wpAny (model prog w) A (do
      let o ← load s.heap.objs.size
      match o.data with
      | .seq xs _ => pure xs.toList
      | _ => unsupported "internal:collect") Q E { s with heap := (s.heap.push (seqObj "list" #[] 0)).update s.heap.objs.size (Obj.mapSeq (· ++ vs.toArray)) }
  refine wpAny_bind (wpAny_load (get?_update_seq (Heap.get?_push_size _ rfl) _) ?_)
  show wpAny _ _ (pure ((#[] : Array Value) ++ vs.toArray).toList) Q E _
  rw [show ((#[] : Array Value) ++ vs.toArray).toList = vs by simp]
  exact wpAny_pure h
theorem sortedT_of_sort {l : Addr} {vs : List Value} {Q : Value → Shared → Prop} (hl : s.heap.IsTuple l vs.toArray) (hL : vs.length ≤ sizeLine)
    (body : ∀ E' : Value → Shared → Prop, wpAny (model prog w) A.in1.in1 (Builtin.«list.sort» ⟨[.ref (s.heap.objs.size + 1)], []⟩) (fun f s' => f = .done (.ret .none) ∧ Q (.ref (s.heap.objs.size + 1)) s') E' { s with heap := PySem.W.copyHeap s.heap vs }) :
    wpAny (model prog w) A (call (.builtin "sorted") [.ref l] []) Q E s := by
  refine call_function_entry_kw kind_sorted plain_sorted entry_sorted (args_sorted1 _) ?_
  unfold Builtin.«sorted»
  refine wpAny_bind (m := checkCount "sorted" 1 1 _) (wpAny_pure ?_)
  refine wpAny_bind (collect_tuple hl ?_ hL)
  refine wpAny_bind (wpAny_newList ?_ hL)
  have hsz : ((s.heap.push (seqObj "list" #[] 0)).update s.heap.objs.size (Obj.mapSeq (· ++ vs.toArray))).objs.size = s.heap.objs.size + 1 := by
    rw [Heap.size_update, size_push']
  show wpAny _ _ _ _ _ { s with heap := PySem.W.copyHeap s.heap vs }
  rw [hsz]
  refine wpAny_bind (wpAny_holding (wpAny_call_entry_kw slot_list_sort ⟨_, PySem.W.copyHeap_at s.heap vs, rfl⟩ entry_list_sort ?body (args_list_sort _)))
  case body =>
    show wpAny (model prog w) A.in1.in1 (Builtin.«list.sort» ⟨[.ref (s.heap.objs.size + 1)], []⟩) _ _ _
    refine wpAny_mono (body _) (fun f s' hf => ?_) fun _ _ e => e
    obtain ⟨rfl, hq⟩ := hf
    exact ⟨_, rfl, wpAny_pure ⟨_, rfl, hq⟩⟩
open PySem.W in
theorem sortedT_data {β : Type} {bs : List β} {enc : β → PyData} {R : Value → β → Prop} {vs : List Value} {l : Addr} {Q : Value → Shared → Prop} (hl : s.heap.IsTuple l vs.toArray) (e : EachIs R vs bs) (er : EachIs (fun v b => ∃ as, Reads s.heap v (enc b) as) vs bs) (hal : AllAlike (bs.map enc)) (hk : Sortable (bs.map enc)) (hL : bs.length ≤ sizeLine)
    (hu : ∀ b, b ∈ bs → A.units + 2 + (enc b).depth < cLine) (h : ∀ out, out.length = bs.length → EachIs R out (bs.mergeSort (dataLe false enc)) → Q (.ref (s.heap.objs.size + 1)) { s with heap := sortedAll s.heap vs (List.toArray out) }) :
    wpAny (model prog w) A (call (.builtin "sorted") [.ref l]) Q E s := by
  have er' : EachIs (fun v b => ∃ as, Reads (sortingHeap (copyHeap s.heap vs) (s.heap.objs.size + 1) vs) v (enc b) as) vs bs := er.mono fun _ _ ⟨as, r⟩ => ⟨as, PyProof.Rows.Reads.keeps (fun _ _ => sorting_copy_old) r⟩
  have hlen : vs.length ≤ sizeLine := by rw [e.length]; exact hL
  refine sortedT_of_sort hl hlen fun _ => list_sort_vals (s := { s with heap := copyHeap s.heap vs }) (copyHeap_at s.heap vs)
    (SortsAt.data (s := { s with heap := sortingHeap (copyHeap s.heap vs) (s.heap.objs.size + 1) vs }) (each_map (R := fun v d => ∃ as, Reads (sortingHeap (copyHeap s.heap vs) (s.heap.objs.size + 1) vs) v d as) enc er') hal hk (bound_map hu)) hlen ⟨rfl, ?_⟩
  exact h _ (by rw [sortVals_length false rfl]; exact e.length) (sortVals_data false e er' hal)
end
open PySem.W in
/-- sorted of a list or a tuple of alike data -/
def rSortA (K : PySem.W.Frag) : List V → Hp → VK → Prop := fun vs H Q => ∃ (a : Addr) (xs : List V) (ds : List PyData) (R : V → PyData → Prop), vs = [V.ref a] ∧ (SqL K H a xs ∨ SqT K H a xs) ∧ DpAll K H xs ds ∧ EachIs R xs ds ∧ AllAlike ds ∧ Sortable ds ∧ ds.length ≤ sizeLine ∧ (∀ d ∈ ds, d.depth ≤ 60) ∧
  ∀ (ys : List V) (p : Addr), EachIs R ys (ds.mergeSort (dataLe false id)) → H p = none → Q (.ref p) (upd H p (.lst ys))
open PySem.W in
theorem each_reads {h : Heap} : ∀ {us : List Value} {ds : List PyData} {as : List Addr}, ReadsAll h us ds as → EachIs (fun v b => ∃ as, Reads h v b as) us ds
  | _, _, _, .nil => .nil
  | _, _, _, .cons h1 t => .cons ⟨_, h1⟩ (each_reads t)
open PySem.W in
theorem each_vals {R : V → PyData → Prop} : ∀ {xs : List V} {us : List Value} {ds : List PyData}, Vals xs us → EachIs R xs ds → EachIs (fun v d => ∃ x, RelV x v ∧ R x d) us ds
  | _, _, _, .nil, .nil => .nil
  | _, _, _, .cons r t, .cons h g => .cons ⟨_, r, h⟩ (each_vals t g)
open PySem.W in
theorem each_back {R : V → PyData → Prop} : ∀ {us : List Value} {ds : List PyData}, EachIs (fun v d => ∃ x, RelV x v ∧ R x d) us ds → ∃ xs, Vals xs us ∧ EachIs R xs ds
  | _, _, .nil => ⟨[], .nil, .nil⟩
  | _, _, .cons ⟨x, r, h⟩ t => by
    obtain ⟨xs, h1, h2⟩ := each_back t
    exact ⟨x :: xs, .cons r h1, .cons h h2⟩
section
variable {X : Cx}
open PySem.W in
theorem cr_sortA (hu : X.A.units + 64 < cLine) : CallR X (.builtin "sorted") (rSortA X.K) := by
  intro pins s σ H vs us Q I r h
  obtain ⟨a, xs, ds, R, rfl, hs, hd, hR, hal, hk, hL, hdep, q⟩ := h
  rw [Vals.ref1 r]
  have go : ∀ {its : List Value}, Vals xs its → (∃ as, ReadsAll s.heap its ds as) → ∀ out : List Value, out.length = ds.length → EachIs (fun v d => ∃ x, RelV x v ∧ R x d) out (ds.mergeSort (dataLe false id)) →
      ∃ x H', Inv X pins σ H' { s with heap := sortedAll s.heap its (List.toArray out) } ∧ RelV x (.ref (s.heap.objs.size + 1)) ∧ Q x H' := by
    intro its rv _ out hlen ho
    obtain ⟨ys, ry, hy⟩ := each_back ho
    obtain ⟨ep, he'⟩ := PyProof.Rows.sortedAll_at s.heap its out.toArray
    have hl2 : ys.length ≤ sizeLine := by rw [ry.length, hlen]; exact hL
    exact ⟨.ref _, upd H (s.heap.objs.size + 1) (.lst ys), I.laid (t' := s.toks) (fun _ _ => PyProof.Rows.sortedAll_old) (Nat.le_succ _) ⟨hl2, out, ep, ry, he'⟩, rfl, q _ _ hy (I.hok.fresh (Nat.le_succ _))⟩
  have un : ∀ d, d ∈ ds → X.A.units + 2 + (id d).depth < cLine := fun d hm => by
    have := hdep d hm
    show X.A.units + 2 + d.depth < cLine
    omega
  rcases hs with hs | hs
  · obtain ⟨its, rv, hl, hz⟩ := I.list hs
    obtain ⟨as, h4⟩ := Dp.readsAll I ds _ its hd rv
    exact sorted_data (enc := id) hl.isList (each_vals rv hR) (each_reads h4) (by rw [List.map_id]; exact hal) (by rw [List.map_id]; exact hk) hL un fun out h1 h2 => go rv ⟨as, h4⟩ out h1 h2
  · obtain ⟨its, rv, hl, hz⟩ := I.tuple hs
    obtain ⟨as, h4⟩ := Dp.readsAll I ds _ its hd rv
    exact sortedT_data (enc := id) (show s.heap.IsTuple a its.toArray from hl) (each_vals rv hR) (each_reads h4) (by rw [List.map_id]; exact hal) (by rw [List.map_id]; exact hk) hL un fun out h1 h2 => go rv ⟨as, h4⟩ out h1 h2
end
end DL


/-! A tuple of ints asked for in a set of such; set(x) of a tuple of such tuples. -/
namespace L2
open PySem PySem.Spec PyProof.Rows
section
variable {P : Program} {w : World} {A : Around} {E : Value → Shared → Prop} {s : Shared}
variable {a : Addr} {L : List (Addr × List Int)} {es : Array (Int × Value)} {ep : Nat} {t : SetTable}
/-- the probe at the c-th step of the way of the hash g -/
abbrev stepP (m : Nat) (g : Int) (c : Nat) : SetTable.Probe := nth m (runAt m (SetTable.bits g % (m + 1)) (SetTable.bits g)) c
theorem stepP_plain (m : Nat) (g : Int) (c : Nat) : (stepP m g c).dummy = none := by
  have all : ∀ (n : Nat) (q : SetTable.Probe), q.dummy = none → (nth m q n).dummy = none := by
    intro n
    induction n with
    | zero => intro q hq; exact hq
    | succ n ih =>
      intro q hq
      refine ih (adv m q) ?_
      unfold adv
      split <;> exact hq
  exact all c _ rfl
theorem stepP_add (m : Nat) (g : Int) (c q : Nat) : nth m (stepP m g c) q = stepP m g (c + q) := (nth_add m c _ q).symm
theorem look_from (R : SetTR P w s.heap a L es ep t) {x : Addr} {k : List Int} (hx : IsT P w s.heap k x) (hu : A.units < cLine) {n : Nat} (hn : n < 10 * SetTable.turns t.mask)
    (out : way t.mask (thash P w k) n ∉ t.place.toList) (inn : ∀ c, c < n → way t.mask (thash P w k) c ∈ t.place.toList) {Q : SetFound → Shared → Prop}
    (yes : k ∈ L.map (·.2) → ∀ i, Q (.there (some i)) s) (no : k ∉ L.map (·.2) → ∀ j b, Q (.free j b) s) :
    ∀ (f c : Nat) (st : Option SetTable.Probe), st.getD (t.probeStart (thash P w k)) = stepP t.mask (thash P w k) c → c ≤ n → n - c < f →
      (∀ (i : Nat) p, L[i]? = some p → p.2 = k → ∃ d, c ≤ d ∧ d < n ∧ t.place.toList[i]? = some (way t.mask (thash P w k) d)) →
      wpAny (model P w) A (setSearchFrom a (.ref x) (thash P w k) false f st) Q E s := by
  obtain ⟨o, ho, hex, hd⟩ := R.ob
  intro f
  induction f with
  | zero => intro c st _ _ hf _; exact absurd hf (Nat.not_lt_zero _)
  | succ f ih =>
    intro c st hst hc hf own
    rw [setSearchFrom_succ]
    refine wpAny_bind (wpAny_setState_of ho hd R.fits ?_)
    dsimp only
    refine wp_if_neg R.gw ?_
    try refine wpAny_bind (wpAny_pure ?_)
    have jOf : ∀ q, (nth t.mask (stepP t.mask (thash P w k) c) q).j = way t.mask (thash P w k) (c + q) := fun q => congrArg SetTable.Probe.j (stepP_add _ _ c q)
    have upto : c + (n - c) = n := by omega
    have go := go_spec t R.tab.ris R.tab.dm (fun i => (es[i]?.map (·.1)).getD 0) (thash P w k) (10 * SetTable.turns t.mask) (n - c) _ (stepP_plain t.mask (thash P w k) c) (by omega)
      (fun q hq => by rw [jOf]; exact inn (c + q) (by omega)) (by rw [jOf, upto]; exact out)
    have hashOf : ∀ (i : Nat) p, L[i]? = some p → (fun i => (es[i]?.map (·.1)).getD 0) i = thash P w p.2 := fun i p hp => by
      show (es[i]?.map (·.1)).getD 0 = thash P w p.2
      rw [R.entry hp] <;> rfl
    rcases go with ⟨q, i, hq, hi, _, before, met⟩ | ⟨before, met⟩
    · have met' : t.probe (fun i => (es[i]?.map (·.1)).getD 0) (thash P w k) (st.getD (t.probeStart (thash P w k))) = some (.candidate (way t.mask (thash P w k) (c + q)) i (stepP t.mask (thash P w k) (c + (q + 1)))) := by
        rw [hst, ← jOf, ← stepP_add]
        exact met
      rw [met']
      dsimp only
      rw [jOf] at hi
      have il : i < L.length := by
        have z1 : i < t.place.toList.length := (List.getElem?_eq_some_iff.mp hi).1
        have z2 := R.tab.sz
        rw [List.length_map] at z2
        rw [Array.length_toList] at z1
        omega
      obtain ⟨p, hp⟩ : ∃ p, L[i]? = some p := ⟨_, List.getElem?_eq_getElem il⟩
      have pm : p ∈ L := List.mem_of_getElem? hp
      have slot : t.slot (way t.mask (thash P w k) (c + q)) = .live i := slot_live R.tab.ris hi
      have tail : wpAny (model P w) A (searchRest a (.ref x) (thash P w k) false f es t (way t.mask (thash P w k) (c + q)) i (stepP t.mask (thash P w k) (c + (q + 1)))) Q E s := by
        unfold searchRest
        rw [R.entry hp]
        dsimp only
        refine wpAny_bind (wpAny_holding (wpAny_eqBool_tuple hu (R.tup p pm) hx ?_))
        refine wpAny_bind (wpAny_setState_of ho hd R.fits ?_)
        dsimp only
        refine wp_if_neg (by simp) ?_
        try refine wpAny_bind (wpAny_pure ?_)
        rw [sameMem]
        dsimp only
        simp only [if_true, slot, R.entry hp]
        refine wpAny_bind (wpAny_isSame_ref_self (wpAny_bind (wpAny_pure ?_)))
        simp only [if_true]
        by_cases eqk : p.2 = k
        · refine wp_if_pos (by simp [eqk]) ?_
          exact wpAny_pure (yes (List.mem_map.mpr ⟨p, pm, eqk⟩) i)
        · refine wp_if_neg (by simp [eqk]) ?_
          refine ih (c + (q + 1)) _ rfl (by omega) (by omega) fun i' p' h' k' => ?_
          obtain ⟨d, d1, d2, d3⟩ := own i' p' h' k'
          refine ⟨d, ?_, d2, d3⟩
          rcases Nat.lt_trichotomy d (c + q) with z | z | z
          · exact absurd ((hashOf i' p' h').trans (congrArg (thash P w) k')) (before (d - c) i' (by omega) (by rw [jOf, show c + (d - c) = d by omega]; exact d3))
          · exfalso
            rw [z] at d3
            have s1 := slot_live R.tab.ris d3
            rw [slot] at s1
            injection s1 with s1
            rw [← s1, hp] at h'
            exact eqk ((congrArg Prod.snd (Option.some.inj h')).trans k')
          · omega
      by_cases led : t.led = true
      · refine wp_if_neg (by simp [led]) ?_
        try refine wpAny_bind (wpAny_pure ?_)
        exact tail
      · refine wp_if_pos (by simp [led]) ?_
        refine wpAny_bind (seen_tup hx (fun y hy => ?_) ?_)
        · obtain ⟨r, hr, rfl⟩ := List.mem_map.mp hy
          have r2 : r ∈ es.toList := by
            have z : r ∈ es ∧ r.1 = thash P w k := by simpa using hr
            simpa using z.1
          rw [R.rows] at r2
          obtain ⟨p2, m2, rfl⟩ := List.mem_map.mp r2
          exact ⟨p2.2, p2.1, rfl, R.tup p2 m2⟩
        · refine wp_if_neg (by decide) ?_
          try refine wpAny_bind (wpAny_pure ?_)
          exact tail
    · have met' : t.probe (fun i => (es[i]?.map (·.1)).getD 0) (thash P w k) (st.getD (t.probeStart (thash P w k))) = some (.empty (nth t.mask (stepP t.mask (thash P w k) c) (n - c)).j none) := by
        rw [hst]
        exact met
      rw [met']
      dsimp only
      refine wpAny_pure (no (fun hm => ?_) _ _)
      obtain ⟨p0, m0, k0⟩ := List.mem_map.mp hm
      obtain ⟨i0, l0, e0⟩ := List.getElem_of_mem m0
      have g0 : L[i0]? = some p0 := by rw [List.getElem?_eq_getElem l0, e0]
      obtain ⟨d, d1, d2, d3⟩ := own i0 p0 g0 k0
      exact before (d - c) i0 (by omega) (by rw [jOf, show c + (d - c) = d by omega]; exact d3) ((hashOf i0 p0 g0).trans (congrArg (thash P w) k0))
theorem look_at (R : SetTR P w s.heap a L es ep t) {x : Addr} {k : List Int} (hx : IsT P w s.heap k x) (hu : A.units < cLine) {Q : SetFound → Shared → Prop}
    (yes : k ∈ L.map (·.2) → ∀ i, Q (.there (some i)) s) (no : k ∉ L.map (·.2) → ∀ j b, Q (.free j b) s) : wpAny (model P w) A (setSearch a (.ref x) (thash P w k)) Q E s := by
  have room := R.room
  obtain ⟨n, n1, n2, n3⟩ := R.tab.first (by rw [List.length_map]; omega) (thash P w k)
  have big : n < 100000 := by
    have z : 10 * SetTable.turns t.mask ≤ 1420 := by
      unfold SetTable.turns
      rcases R.tab.mok with e | e | e <;> omega
    omega
  unfold setSearch
  refine look_from R hx hu n1 n2 n3 yes no 100000 0 none rfl (Nat.zero_le _) (by omega) fun i p hp hk => ?_
  have h1 : (L.map fun p => thash P w p.2)[i]? = some (thash P w k) := by rw [List.getElem?_map, hp, ← hk] <;> rfl
  have h2 : i < t.place.toList.length := by
    have z1 : i < L.length := (List.getElem?_eq_some_iff.mp hp).1
    have z2 := R.tab.sz
    rw [List.length_map] at z2
    rw [Array.length_toList]
    omega
  obtain ⟨c, c1, c2⟩ := R.tab.before n2 h1 (List.getElem?_eq_getElem h2)
  exact ⟨c, Nat.zero_le _, c1, by rw [List.getElem?_eq_getElem h2, c2]⟩
theorem notScan (x : Addr) (es : Array (Int × Value)) : byScan (.ref x) es = false := by rfl
open Classical in
/-- k is asked for in the set -/
theorem has_tup (R : SetTR P w s.heap a L es ep t) {x : Addr} {k : List Int} (hx : IsT P w s.heap k x) (hu : A.units + 10 < cLine) {Q : Bool → Shared → Prop}
    (h : ∀ tk, Q (decide (k ∈ L.map (·.2))) { s with toks := tk }) : wpAny (model P w) A (contains (.ref a) (.ref x)) Q E s := by
  obtain ⟨o, ho, hex, hd⟩ := R.ob
  have ty : s.TypeIs (.ref a) "set" := ⟨o, ho, hex.1⟩
  unfold contains
  try with_reducible refine wpAny_holding ?_
  refine wpAny_bind (wpAny_specialOf ty F.slot_set_contains.lookup ?_)
  show wpAny _ _ (if (some (Value.builtin "set.__contains__") == some Value.none) = true then _ else _) _ E s
  rw [if_neg (by rw [beq_builtin_none]; exact Bool.false_ne_true)]
  refine wpAny_bind (wpAny_callSpecialUnlessNone?_slot (name := Str.ofString "__contains__") ty F.slot_set_contains
    (wpAny_call_entry F.slot_set_contains ty entry_set_contains ?_ (F.args_set_contains_2 _ _)))
  unfold Builtin.«frozenset.__contains__» Builtin.Frozenset.oneOther
  simp only [List.isEmpty_nil, bind_assoc]
  unfold Builtin.Frozenset.addrOf Builtin.Frozenset.withSetAsKey setContains
  refine wpAny_bind (wpAny_pure ?_)
  try dsimp only
  refine wpAny_bind (wpAny_pure ?_)
  try dsimp only
  refine wpAny_bind (wpAny_tryCatch ?_)
  refine wpAny_holding ?_
  refine wpAny_bind (wpAny_pyHash_tuple (by show A.units + 1 < cLine; omega) hx ?_)
  have R2 : SetTR P w ({ s with toks := s.toks + (k.length + 1) } : Shared).heap a L es ep t := R
  refine wpAny_bind (m := setFind a (.ref x) (thash P w k)) ?_
  unfold setFind setFindIn
  refine wpAny_bind (wpAny_setState_of (s := { s with toks := s.toks + (k.length + 1) }) ho hd R.fits ?_)
  dsimp only
  refine wp_if_neg (by rw [notScan]; decide) ?_
  try refine wpAny_bind (wpAny_pure ?_)
  refine wpAny_bind (look_at R2 (show IsT P w ({ s with toks := s.toks + (k.length + 1) } : Shared).heap k x from hx) (by show A.units + 1 < cLine; omega) (fun hm i => ?_) fun hm j b => ?_)
  · dsimp only
    refine wpAny_pure (wpAny_pure ?_)
    show wpAny _ _ (ret (Value.bool true)) _ _ _
    have z := h (s.toks + (k.length + 1))
    rw [decide_eq_true hm] at z
    exact wpAny_pure ⟨_, rfl, wpAny_truthy_bool z⟩
  · dsimp only
    refine wpAny_pure (wpAny_pure ?_)
    show wpAny _ _ (ret (Value.bool false)) _ _ _
    have z := h (s.toks + (k.length + 1))
    rw [decide_eq_false hm] at z
    exact wpAny_pure ⟨_, rfl, wpAny_truthy_bool z⟩
set_option maxRecDepth 100000 in
set_option maxHeartbeats 3200000 in
/-- set(xs) of a tuple -/
theorem call_set_tupsT {l : Addr} {items : Array Value} (ks : List (Addr × List Int)) {Q : Value → Shared → Prop} (hh : A.handled = none) (hl : s.heap.IsTuple l items) (hit : items.toList = ks.map fun p => Value.ref p.1)
    (hk : ∀ p ∈ ks, IsT P w s.heap p.2 p.1) (hfew : ks.length < 64) (hu : A.units + 3 < cLine)
    (h : ∀ (h' : Heap) (tk : Nat) L es ep t, SetTR P w h' s.heap.objs.size L es ep t → Got ks ks.length L → (∀ b o, s.heap.get? b = some o → h'.get? b = some o) → Q (.ref s.heap.objs.size) { s with heap := h', toks := tk }) :
    wpAny (model P w) A (call (.type "set") [.ref l]) Q E s := by
  have cnt : items.size = ks.length := by
    have q := congrArg List.length hit
    rw [Array.length_toList, List.length_map] at q
    exact q
  obtain ⟨mc, mt, hmro⟩ := F.called_set.mro
  have hmade := F.called_set.made
  have hsub := F.called_set.sub
  refine wpAny_call (codeAny_of_tree ?_)
  show wpAny _ _ (callAny (.type "set") _) _ _ _
  refine wpAny_pure ⟨Code.quiet_builtin _ (by decide +kernel), codeAny_builtin F.entry_type_call ?_⟩
  rw [Around.under_plain (weight_type_call_type "set" [.ref l] []) rfl]
  have h1 := F.called_set.notType
  have h2 := F.called_set.canCreate
  have hct := F.typeCall_set_1 (.ref l)
  repeat (any_goals (first | assumption | wp_step))

  let S0 : Obj := { cls := .type "set", dict := none, data := .set #[] 0 (.fresh 0 0 (!w.params.followText "set-order")) }
  refine codeAny_mono (code_set_led1 (.ref l) (E := E) (Q₁ := fun obj s₁ => obj = .ref s.heap.objs.size ∧ s₁ = { s with heap := s.heap.push S0 }) ⟨rfl, rfl⟩) fun r s₁ hr => ?_
  cases r with
  | error e => exact hr
  | ok fl =>
    cases fl with
    | ret obj =>
      obtain ⟨rfl, rfl⟩ := hr
      have hS : (s.heap.push S0).get? s.heap.objs.size = some S0 := Heap.get?_push_size _ rfl
      have hT : Shared.TypeIs { s with heap := s.heap.push S0 } (.ref s.heap.objs.size) "set" := ⟨_, hS, rfl⟩
      have hli := F.called_set.init.lookup
      have hbi := F.called_set.init.bind (.ref s.heap.objs.size)
      repeat (any_goals (first | assumption | wp_step))

      refine codeAny_mono (codeAny_call_builtin (R := wants (fun r s₂ => r = .none ∧ ∃ h' tk L es ep t, s₂ = { s with heap := h', toks := tk } ∧ SetTR P w h' s.heap.objs.size L es ep t ∧ Got ks ks.length L ∧
          (∀ b o, s.heap.get? b = some o → h'.get? b = some o)) E) F.called_set.init.plain F.entry_set_init (check_set_init_1 hT ?_)) fun r₂ s₂ hr₂ => ?_
      · obtain ⟨⟨oc, od, oda, osl⟩, hol, hcl, nl, hdl⟩ := hl
        simp only at hcl hdl
        subst hcl; subst hdl
        have held : (s.heap.push S0).get? l = some { cls := .type "tuple", dict := od, data := .seq items nl, slots := osl } := Heap.get?_push_of_some _ hol
        have n1 := F.sub_tuple_set
        have n2 := F.sub_tuple_frozenset
        have n3 : (Value.type "tuple" == Value.type "dict") = false := by decide
        have hl1 : (s.heap.push S0).IsTuple l items := ⟨_, held, rfl, nl, rfl⟩
        unfold Builtin.«set.__init__» noKeywords Builtin.Frozenset.updateFrom
        generalize hPI : pyIter = PI
        wp_walk
        subst hPI

        refine wpAny_pyIter_tuple hl1 ?_
        refine wpAny_bind (wpAny_runValue ?_)
        have lt0 : l < s.heap.objs.size := Heap.lt_size hol
        have hh3 : A.in1.in1.in1.handled = none := by simp [hh]
        have apart : l ≠ (s.heap.push S0).objs.size := by
          rw [Heap.size_push]; exact Nat.ne_of_lt (Nat.lt_succ_of_lt lt0)
        have out : s.heap.objs.size ∉ [(s.heap.push S0).objs.size, l] := by
          rw [Heap.size_push]; simp only [List.mem_cons, List.mem_singleton, List.not_mem_nil, or_false, not_or]
          exact ⟨Nat.ne_of_lt (Nat.lt_succ_self _), Nat.ne_of_gt lt0⟩
        have each : ∀ (i : Nat) (v : Value), items[i]? = some v → ∃ p, ks[i]? = some p ∧ v = .ref p.1 := fun i v hv => by
          have q : (ks.map fun p => Value.ref p.1)[i]? = some v := by rw [← hit, Array.getElem?_toList]; exact hv
          rw [List.getElem?_map, Option.map_eq_some_iff] at q
          obtain ⟨p, q1, q2⟩ := q
          exact ⟨p, q1, q2.symm⟩
        have above : ∀ b, s.heap.objs.size ≤ b → s.heap.get? b = none := fun b hb => by
          cases q : s.heap.get? b with
          | none => rfl
          | some o => exact absurd (Nat.lt_of_lt_of_le (Heap.lt_size q) hb) (Nat.lt_irrefl _)
        refine set_update_tups ((Walks.tuple hh3 _ l apart items).toS) s.heap.objs.size
          out ks cnt hfew each s.heap hk (above _ (Nat.le_refl _)) (fun b hb => above b (by
            rw [List.mem_singleton.mp hb, Heap.size_push]
            exact Nat.le_succ _)) hu (items.size - 0) 0 _ (by omega) (Nat.zero_le _)
          ⟨⟨_, Heap.get?_push_size _ rfl, rfl, rfl⟩, (hl1.push _)⟩ (fun b o e => Heap.get?_push_of_some _ (Heap.get?_push_of_some _ e)) ?hS0 ?hR
        case hS0 => exact ⟨[], #[], 0, _, setTR_fresh (Heap.get?_push_of_some _ hS), Got.zero ks⟩
        case hR =>
          intro s' L es ep t hm hS' g' hkp
          obtain ⟨h', g2, d', tk', os'⟩ := s'
          have eg : g2 = s.gens := hm.gens
          have ed : d' = s.drawn := hm.drawn
          have eo : os' = s.os := hm.os
          subst eg; subst ed; subst eo
          show wpAny _ _ _ _ _ _
          refine wpAny_pure ?_
          show wpAny _ _ (ret Value.none) _ _ _
          rw [cnt] at g'
          exact wpAny_pure ⟨rfl, h', tk', L, es, ep, t, rfl, hS', g', hkp⟩

      · cases r₂ with
        | error e => exact hr₂
        | ok fl₂ =>
          cases fl₂ with
          | ret r =>
            obtain ⟨rfl, h', tk, L, es, ep, t, rfl, hS', g', hk'⟩ := hr₂
            repeat (any_goals (first | assumption | wp_step))
            exact h _ _ _ _ _ _ hS' g' hk'
          | _ => exact hr₂.elim
    | _ => exact hr.elim
end
section
variable {X : Cx}
/-- set(xs), xs a list or a tuple of tuples of ints -/
def rSetA (K : PySem.W.Frag) (P : Program) (w : World) : List V → Hp → VK → Prop := fun xs H Q => ∃ (l : Addr) (ks : List (Addr × List Int)), xs = [V.ref l] ∧ (SqL K H l (ks.map fun p => V.ref p.1) ∨ SqT K H l (ks.map fun p => V.ref p.1)) ∧ (∀ p ∈ ks, SqT K H p.1 (p.2.map V.int)) ∧ ks.length < 64 ∧
  ∀ a L, H a = none → (∀ p ∈ L, p ∈ ks) → (∀ p ∈ ks, p.2 ∈ L.map (·.2)) → Q (.ref a) (upd H a (SetTO P w a L))
theorem cr_setA (hc : X.calm = true) (hu : X.A.units + 64 < cLine) : CallR X (.type "set") (rSetA X.K X.prog X.w) := by
  intro pins s σ H xs us Q I r h
  obtain ⟨l, ks, rfl, hl, hk, hf, q⟩ := h
  rcases hl with hl | hl
  · exact cr_setOfT hc hu pins s σ H _ us Q I r ⟨l, ks, rfl, hl, hk, hf, q⟩
  · rw [Vals.ref1 r]
    obtain ⟨its, rv, pl, _⟩ := I.tuple hl
    have new : H s.heap.objs.size = none := I.hok.fresh (Nat.le_refl _)
    refine call_set_tupsT (P := X.prog) (w := X.w) ks (I.ok.hd hc) (show s.heap.IsTuple l its.toArray from pl) (by simpa using refs_of_vals rv) (fun p hp => I.isT (hk p hp)) hf (by omega) fun h' tk L es ep t R g keep => ?_
    exact ⟨.ref s.heap.objs.size, upd H s.heap.objs.size (SetTO X.prog X.w s.heap.objs.size L), I.laid (t' := tk) keep (Nat.le_refl _) (setTO_new R.t0), rfl,
      q _ L new (fun p hp => List.mem_of_mem_take (g.sub p hp)) fun p hp => g.all p (by rw [List.take_length]; exact hp)⟩
open Classical in
/-- t in S, S a set of tuples of ints -/
noncomputable def rInT2 (K : PySem.W.Frag) (P : Program) (w : World) (neg : Bool) : R2 := fun x y H Q => ∃ (b a : Addr) (k : List Int) (L : List (Addr × List Int)), x = .ref b ∧ y = .ref a ∧ SqT K H b (k.map V.int) ∧ H a = some (SetTO P w a L) ∧ (∀ p ∈ L, SqT K H p.1 (p.2.map V.int)) ∧
  Q (.bl (if neg then !decide (k ∈ L.map (·.2)) else decide (k ∈ L.map (·.2)))) H
theorem op_inT2 (hu : X.A.units + 64 < cLine) : OpR X (compareOp .In) (rInT2 X.K X.prog X.w false) := by
  intro pins s σ H x y v u Q I rx ry h
  obtain ⟨b, a, k, L, rfl, rfl, hb, ha, hL, q⟩ := h
  cases rx
  cases ry
  obtain ⟨es, ep, t, R⟩ := ((I.hok a _ ha).1 : SetT0 X.prog X.w s.heap a L).full fun p hp => I.isT (hL p hp)
  show wpAny (model X.prog X.w) X.A ((do return Value.bool (← contains (.ref a) (.ref b))) : Sem Value) _ _ s
  refine wpAny_bind (has_tup R (I.isT hb) (by omega) fun tk => wpAny_pure ⟨.bl _, H, I.tok tk, rfl, ?_⟩)
  exact q
theorem op_notInT2 (hu : X.A.units + 64 < cLine) : OpR X (compareOp .NotIn) (rInT2 X.K X.prog X.w true) := by
  intro pins s σ H x y v u Q I rx ry h
  obtain ⟨b, a, k, L, rfl, rfl, hb, ha, hL, q⟩ := h
  cases rx
  cases ry
  obtain ⟨es, ep, t, R⟩ := ((I.hok a _ ha).1 : SetT0 X.prog X.w s.heap a L).full fun p hp => I.isT (hL p hp)
  show wpAny (model X.prog X.w) X.A ((do return Value.bool (!(← contains (.ref a) (.ref b)))) : Sem Value) _ _ s
  refine wpAny_bind (has_tup R (I.isT hb) (by omega) fun tk => wpAny_pure ⟨.bl _, H, I.tok tk, rfl, ?_⟩)
  exact q
end
end L2


/-! t[::-1] of a tuple -/
namespace DLT
open PySem PySem.Calls PyProof.Rows PySem.W
section
variable {prog : Program} {w : World} {A : Around} {E : Value → Shared → Prop} {s : Shared}
theorem back_places (n : Nat) : Builtin.Slice.slicePlaces ((n : Int) - 1) (-1) (-1) = n := by
  unfold Builtin.Slice.slicePlaces
  have g : ¬ ((-1 : Int) > 0) := by decide
  simp only [g, if_false]
  split
  · rw [show (-(-1) : Int) = 1 by decide, Int.ediv_one]
    omega
  · omega
theorem back_applied {sl : Addr} {vs : Value} {n : Nat} {Q : Int × Int × Nat → Shared → Prop} (hs : s.heap.IsSliceOf sl .none .none vs) (ps : IsPart vs (some (-1))) (h : Q ((n : Int) - 1, -1, n) s) :
    wpAny (model prog w) A (Builtin.Slice.sliceApplied (.ref sl) (pure (n : Int))) Q E s := by
  obtain ⟨ob, ho, hc, hd⟩ := id hs
  unfold Builtin.Slice.sliceApplied Builtin.Slice.sliceFields
  refine wpAny_bind (wpAny_bind (wpAny_field ho hd (x := .none) rfl (wpAny_bind (wpAny_field ho hd (x := .none) rfl (wpAny_bind (wpAny_field ho hd (x := vs) rfl (wpAny_pure ?_)))))))
  refine wpAny_bind (HT.slicePart_ ps ?_)
  show wpAny _ _ (if ((-1 : Int) == 0) = true then _ else _) _ _ s
  rw [if_neg (by decide)]
  refine wpAny_bind (HT.slicePart_ .none (wpAny_bind (HT.slicePart_ .none (wpAny_bind (wpAny_pure ?_)))))
  have e : Builtin.Slice.sliceAdjust none none (-1) (n : Int) = ((n : Int) - 1, -1) := by
    unfold Builtin.Slice.sliceAdjust
    simp
  show wpAny _ _ (match Builtin.Slice.sliceAdjust none none (-1) (n : Int) with | (lo, hi) => pure (lo, (-1 : Int), Builtin.Slice.slicePlaces lo hi (-1))) _ _ s
  rw [e]
  show wpAny _ _ (pure ((n : Int) - 1, (-1 : Int), Builtin.Slice.slicePlaces ((n : Int) - 1) (-1) (-1))) _ _ s
  rw [back_places]
  exact wpAny_pure h
theorem fm_congr {α β : Type} {f g : α → Option β} : ∀ {l : List α}, (∀ x ∈ l, f x = g x) → l.filterMap f = l.filterMap g
  | [], _ => rfl
  | x :: l, h => by
    rw [List.filterMap_cons, List.filterMap_cons, h x (List.mem_cons_self ..), fm_congr fun y hy => h y (List.mem_cons_of_mem _ hy)]
theorem back_pick (xs : Array Value) : ((List.range xs.size).filterMap fun (k : Nat) => xs[(((xs.size : Int) - 1) + (k : Int) * -1).toNat]?).toArray = xs.toList.reverse.toArray := by
  have e : ((List.range xs.size).filterMap fun (k : Nat) => xs[(((xs.size : Int) - 1) + (k : Int) * -1).toNat]?) = ((List.range xs.size).map fun k => xs.size - 1 - k).filterMap (xs[·]?) := by
    rw [List.filterMap_map]
    apply fm_congr
    intro k hk
    have := List.mem_range.mp hk
    have z : (((xs.size : Int) - 1) + (k : Int) * -1).toNat = xs.size - 1 - k := by omega
    show xs[(((xs.size : Int) - 1) + (k : Int) * -1).toNat]? = xs[xs.size - 1 - k]?
    rw [z]
  rw [e, krv_range, List.filterMap_reverse, krv_all]
theorem getItem_tuple_back {t sl : Addr} {items : Array Value} {vs : Value} {Q : Value → Shared → Prop} (ht : IsTup s.heap t items) (hs : s.heap.IsSliceOf sl .none .none vs) (ps : IsPart vs (some (-1))) (hsz : items.size ≤ sizeLine)
    (h : Q (.ref s.heap.objs.size) { s with heap := s.heap.push { cls := .type "tuple", data := .seq items.toList.reverse.toArray } }) : wpAny (model prog w) A (getItem (.ref t) (.ref sl)) Q E s := by
  have fits : sizeOk (.seq items.toList.reverse.toArray) := by
    show items.toList.reverse.toArray.size ≤ sizeLine
    rw [List.size_toArray, List.length_reverse, Array.length_toList]
    exact hsz
  obtain ⟨ob, ho, hc, hd⟩ := id hs
  have tS : s.TypeIs (.ref sl) "slice" := ⟨ob, ho, hc⟩
  unfold getItem
  try with_reducible refine wpAny_holding ?_
  first | refine wpAny_bind (wpAny_pure ?_) | skip
  refine wpAny_bind (wpAny_sequenceKey ht.typeIs (by decide) ?_)
  refine wpAny_bind (wpAny_callSpecial?_slot (name := Str.ofString "__getitem__") ht.typeIs PyProof.Rows.slot_tuple_getitem
    (wpAny_call_entry PyProof.Rows.slot_tuple_getitem ht.typeIs entry_tuple_getitem ?_ (args_tuple_getitem _ _)))
  show wpAny _ _ (Builtin.Tuple.tupleItemsOf (.ref t) >>= _) _ _ s
  refine wpAny_bind (tupleItemsOf_ ht ?_)
  refine wpAny_bind (wpAny_typeOf tS ?_)
  rw [if_pos (by decide)]
  refine wpAny_bind (back_applied hs ps ?_)
  have one : ¬ ((((items.size : Int) - 1) == 0 && (-1 : Int) == 1 && items.size == items.size) = true) := by simp
  show wpAny _ _ (if (((items.size : Int) - 1) == 0 && (-1 : Int) == 1 && items.size == items.size) = true then _ else _) _ _ s
  rw [if_neg one, back_pick]
  first
    | exact wpAny_bind (m := Builtin.Tuple.tupleExact _) (wpAny_newObj_type (wpAny_pure ⟨_, rfl, wpAny_pure h⟩) fits)
    | exact wpAny_bind (m := Builtin.Tuple.tupleExact _) (wpAny_newObj_type (wpAny_bind (wpAny_pure (wpAny_pure ⟨_, rfl, wpAny_pure h⟩))) fits)
    | exact wpAny_bind (wpAny_bind (m := Builtin.Tuple.tupleExact _) (wpAny_newObj_type (wpAny_pure (wpAny_pure ⟨_, rfl, wpAny_pure h⟩)) fits))
    | exact wpAny_bind (wpAny_bind (m := Builtin.Tuple.tupleExact _) (wpAny_newObj_type (wpAny_pure ⟨_, rfl, wpAny_pure h⟩) fits))
end
end DLT
namespace DL
open PySem PySem.Spec PyProof.Rows L2
def tRevT (K : PySem.W.Frag) (te : TE) : TE := fun σ H Q => te σ H fun x H1 => ∃ a xs, x = .ref a ∧ SqT K H1 a xs ∧ ∀ p, H1 p = none → Q (.ref p) (upd H1 p (.tup xs.reverse))
section
variable {X : Cx}
theorem pe_revT {e : Expr} {te : TE} {k : Nat} {p1 p2 p3 pos : Pos} (he : PE X e te) : PE X (.Subscript e (.Slice none none (some (.UnaryOp .USub (.Constant (.int 1) k p1) p2)) p3) pos) (tRevT X.K te) := by
  refine ⟨fun pins s σ H Q I h => ?_⟩
  refine Subscript_ (thn (he.run pins s σ H _ I h) fun v s1 ⟨x, H1, I1, r1, a, xs, ex, hx, q⟩ => ?_)
  subst ex
  cases r1
  have mone : PO X (some (.UnaryOp .USub (.Constant (.int 1) k p1) p2)) (tPart (tUn (rU fun i => .int (-i)) (tC (.int 1)))) := po_some (pe_un un_neg pe_int)
  refine wpAny_Slice (thn (po_none.run pins s1 σ H1 (fun o H2 => o = none ∧ H2 = H1) I1 ⟨rfl, rfl⟩) fun vl s2 ⟨l, H2, I2, pl, el, e2⟩ => ?_)
  subst el e2
  refine thn (po_none.run pins s2 σ H2 (fun o H3 => o = none ∧ H3 = H2) I2 ⟨rfl, rfl⟩) fun vu s3 ⟨u, H3, I3, pu, eu, e3⟩ => ?_
  subst eu e3
  refine thn (mone.run pins s3 σ H3 (fun o H4 => o = some (-1) ∧ H4 = H3) I3 ⟨1, rfl, -1, rfl, rfl, rfl⟩) fun vs s4 ⟨o, H4, I4, ps, eo, e4⟩ => ?_
  subst eo e4
  cases pl
  cases pu
  have I5 : Inv X pins σ H4 { s4 with heap := s4.heap.push { cls := .type "slice", data := .fields #[.none, .none, vs] } } := I4.kept (t' := s4.toks) fun b ob q => Heap.get?_push_of_some _ q
  obtain ⟨its, r, ht, hz⟩ := I5.tuple hx
  have len := r.length
  show wpAny (model X.prog X.w) X.A (subscriptTail e (.Slice none none (some (.UnaryOp .USub (.Constant (.int 1) k p1) p2)) p3) (.ref a) (.ref s4.heap.objs.size)) (EP X pins σ Q) X.xe { s4 with heap := s4.heap.push { cls := .type "slice", data := .fields #[.none, .none, vs] } }
  refine tail_any (ops := [.ref a, .ref s4.heap.objs.size]) ht.typeIs PyProof.Rows.slot_tuple_getitem.lookup ?_ (by with_unfolding_all rfl)
  refine DLT.getItem_tuple_back ht (Heap.IsSliceOf.new _ .none .none vs) ps (by rw [List.size_toArray]; omega) ?_
  refine ⟨.ref _, _, I5.laid (t' := s4.toks) (o := .tup xs.reverse) (fun b ob q => Heap.get?_push_of_some _ q) (Nat.le_refl _) ?_, rfl, q _ (I5.hok.fresh (Nat.le_refl _))⟩
  exact ⟨by rw [List.length_reverse]; exact hz, _, r.reverse, _, Heap.get?_push_size _ rfl, rfl, _, rfl⟩
end
end DL


namespace DL
open PySem PySem.Spec PyProof.Rows L2
open PySem.W (AllAlike Sortable EachIs dataLe)

/-! ### sorted, gcd, - x, t[::-1] -/
def sortD (ds : List PyData) : List PyData := ds.mergeSort (dataLe false id)
def SortOk (ds : List PyData) : Prop := PyData.hasDictAll ds = false ∧ AllAlike ds ∧ Sortable ds ∧ ds.length ≤ 16777216 ∧ ∀ d ∈ ds, d.depth ≤ 60
def gSort : G1 := fun ds Q => match ds with
  | [.list xs] => SortOk xs ∧ Q (.list (sortD xs))
  | [.tuple xs] => SortOk xs ∧ Q (.list (sortD xs))
  | _ => False
theorem DVs.each {K : PySem.W.Frag} {F : Hp} : ∀ {vs : List V} {ds : List PyData}, DVs K F vs ds → EachIs (fun v d => DV K F v d) vs ds
  | _, _, .nil => .nil
  | _, _, .cons h t => .cons h (DVs.each t)
theorem DVs.of_each {K : PySem.W.Frag} {F : Hp} : ∀ {vs : List V} {ds : List PyData}, EachIs (fun v d => DV K F v d) vs ds → DVs K F vs ds
  | _, _, .nil => .nil
  | _, _, .cons h t => .cons h (DVs.of_each t)
section
variable {X : Cx}
theorem cd_sorted (hu : X.A.units + 64 < cLine) : CallD X (.builtin "sorted") gSort := by
  refine ⟨_, cr_sortA hu, fun p F H vs ds Qd Q f hv hg q => ?_⟩
  have go : ∀ {a : Addr} {ys : List V} {xs : List PyData}, (SqL X.K F a ys ∨ SqT X.K F a ys) → DVs X.K F ys xs → SortOk xs → Qd (.list (sortD xs)) → rSortA X.K [V.ref a] H Q := by
    intro a ys xs hs h2 ok hq
    obtain ⟨o1, o2, o3, o4, o5⟩ := ok
    refine ⟨a, ys, xs, fun v d => DV X.K F v d, rfl, hs.imp (sql_same f.sub) (sqt_same f.sub), (h2.mono f.sub).dp o1, h2.each, o2, o3, by rw [sl_eq]; exact o4, o5, fun zs l hz hl => ?_⟩
    have x := Ext.new f (o := .lst zs) hl
    exact q _ _ _ _ x (.lst (.of upd_same) ((DVs.of_each hz).mono x.ff)) hq
  unfold gSort at hg
  split at hg
  · cases hv with
    | cons h t => cases t; cases h with | lst h1 h2 => exact go (.inl h1) h2 hg.1 hg.2
  · cases hv with
    | cons h t => cases t; cases h with | tup h1 h2 => exact go (.inr h1) h2 hg.1 hg.2
  · exact hg.elim
def gGcd : G1 := fun ds Q => match ds with | [.int i, .int j] => Q (.int ((Nat.gcd i.natAbs j.natAbs : Nat) : Int)) | _ => False
theorem cd_gcd : CallD X (.builtin "math.gcd") gGcd := by
  refine ⟨_, cr_gcd, fun p F H vs ds Qd Q f hv hg q => ?_⟩
  unfold gGcd at hg
  split at hg
  · cases hv with
    | cons h t => cases h; cases t with | cons h t => cases t; cases h; exact ⟨_, _, rfl, q _ _ F H (Ext.refl f.sub) (.int _) hg⟩
  · exact hg.elim
variable {pos p1 p2 p3 : Pos} {e : Expr} {te : DT}
def dNeg (t : DT) : DT := fun ρ Q => t ρ fun d => match d with | .int i => Q (.int (-i)) | _ => False
theorem de_neg (he : DE X e te) : DE X (.UnaryOp .USub e pos) (dNeg te) := by
  refine PE.wk (pe_un un_neg he) fun σ H Q ⟨p, H0, F, ρ, Qd, f, r, q, k⟩ => ?_
  refine ⟨p, H0, F, ρ, _, f, r, q, fun d v F' H' x hv hq => ?_⟩
  cases d with
  | int i => cases hv; exact ⟨i, rfl, k _ _ F' H' x (.int _) hq⟩
  | _ => exact hq.elim
def dRevT (t : DT) : DT := fun ρ Q => t ρ fun d => match d with | .tuple xs => Q (.tuple xs.reverse) | _ => False
theorem de_rev {k : Nat} (he : DE X e te) : DE X (.Subscript e (.Slice none none (some (.UnaryOp .USub (.Constant (.int 1) k p1) p2)) p3) pos) (dRevT te) := by
  refine PE.wk (pe_revT he) fun σ H Q ⟨p, H0, F, ρ, Qd, f, r, q, k⟩ => ?_
  refine ⟨p, H0, F, ρ, _, f, r, q, fun d v F' H' x hv hq => ?_⟩
  cases d with
  | tuple xs =>
    cases hv with
    | @tup a ys _ h1 h2 =>
      refine ⟨a, ys, rfl, sqt_same x.fh h1, fun l hl => ?_⟩
      have y := Ext.new (x.fit f) (o := .tup ys.reverse) hl
      exact k _ _ _ _ (x.trans f y) (.tup (.of upd_same) (h2.reverse.mono y.ff)) hq
  | _ => exact hq.elim
end

/-! ### sets of tuples of ints -/
abbrev tupI (z : List Int) : PyData := .tuple (z.map .int)
theorem tups_of {K : PySem.W.Frag} {F : Hp} : ∀ {vs : List V} {zs : List (List Int)}, DVs K F vs (zs.map tupI) → ∃ ks : List (Addr × List Int), vs = (ks.map fun q => V.ref q.1) ∧ zs = ks.map (·.2) ∧ ∀ q ∈ ks, SqT K F q.1 (q.2.map V.int)
  | _, [], .nil => ⟨[], rfl, rfl, fun q hq => nomatch hq⟩
  | _, z :: zs, .cons h t => by
    obtain ⟨ks, e1, e2, e3⟩ := tups_of t
    cases h with
    | @tup a xs _ h1 h2 =>
      have ex := h2.ints
      subst ex
      refine ⟨(a, z) :: ks, by rw [e1]; rfl, by rw [e2]; rfl, fun q hq => ?_⟩
      rcases List.mem_cons.mp hq with rfl | hq
      · exact h1
      · exact e3 q hq
/-- a list or a tuple of tuples of ints -/
def TupsAs (d : PyData) (zs : List (List Int)) : Prop := d = .list (zs.map tupI) ∨ d = .tuple (zs.map tupI)
theorem tupsAs_of {K : PySem.W.Frag} {F : Hp} {v : V} {d : PyData} {zs : List (List Int)} (h : DV K F v d) (a : TupsAs d zs) : ∃ (l : Addr) (ks : List (Addr × List Int)), v = .ref l ∧ (SqL K F l (ks.map fun p => V.ref p.1) ∨ SqT K F l (ks.map fun p => V.ref p.1)) ∧ zs = ks.map (·.2) ∧ ∀ q ∈ ks, SqT K F q.1 (q.2.map V.int) := by
  rcases a with rfl | rfl
  · cases h with
    | @lst l xs _ h1 h2 =>
      obtain ⟨ks, e1, e2, e3⟩ := tups_of h2
      subst e1
      exact ⟨l, ks, rfl, .inl h1, e2, e3⟩
  · cases h with
    | @tup l xs _ h1 h2 =>
      obtain ⟨ks, e1, e2, e3⟩ := tups_of h2
      subst e1
      exact ⟨l, ks, rfl, .inr h1, e2, e3⟩
section
variable {X : Cx} {pos p1 p2 p3 p4 : Pos} {e : Expr} {te : DT}
/-- y = set(e) -/
def dSetSet (i : Nat) (t : DT) : DS := fun D ρ => t ρ fun d => ∃ zs, TupsAs d zs ∧ zs.length < 64 ∧ D.nx (ρ.set i (.sett fun x => x ∈ zs))
theorem ds_setSet (i : Nat) {y : Str} (hc : X.calm = true) (hu : X.A.units + 64 < cLine) (hN : X.N.Nodup) (hm : X.mg "set" = none) (he : DE X e te) (hi : X.N[i]? = some y := by rfl) (hx : Loc X.env.scope y := by first | exact Or.inl rfl | exact Or.inr rfl)
    (hg : Gl X "set" := by rfl) (hv : bootBuiltins "set" = some (.type "set") := by decide +kernel) (hn : starEach [e] X.env = (false, eval e X.env) :: starEach [] X.env := by rfl) (hpl : (backTo p3 (starEach [] X.env)).any (·.1) = false := by rfl)
    (hs : swapsWith (.Call (.Name "set" p2) [e] [] p3) (some (.Name y p1)) pos.line X.env = pure false := by rfl) (hf : X.fn y = true ∨ X.env.scope.names.lookup y = some .local := by first | exact .inl rfl | exact .inr rfl) :
    DP X (.Assign [.Name y p1] (.Call (.Name "set" p2) [e] [] p3) pos) (dSetSet i te) := by
  refine PS.wk (ps_set hN hi hx (pe_callTy (cr_setA hc hu) hg hm hv (pa_cons he pa_nil hn) (by decide) (by decide) hn hpl) hs hf) fun D σ H ⟨p, H0, F0, F, ρ, Dd, f, x, r, q, k⟩ => ?_
  refine ⟨p, H0, F, ρ, _, x.fit f, r, q, fun d v F' H' y hv ⟨zs, ta, hl, hq⟩ => ?_⟩
  obtain ⟨l, ks, rfl, hs, rfl, hk⟩ := tupsAs_of hv ta
  refine ⟨l, ks, rfl, hs.imp (sql_same y.fh) (sqt_same y.fh), fun q hq => sqt_same y.fh (hk q hq), by rw [List.length_map] at hl; exact hl, fun a L ha h1 h2 => ?_⟩
  have fx := y.fit (x.fit f)
  have np := fx.ne ha
  have j := Ext.junk fx (o := SetTO X.prog X.w a L) ha
  refine k.nx _ F' _ _ y.ff ((x.trans f y).trans f j) (((r.ext y).ext j).set i (some (.ref a)) (sl := .sett fun x => x ∈ ks.map (·.2)) ⟨a, L, rfl, np, upd_same, fun q hq => hk q (h1 q hq), fun z => ⟨fun hz => ?_, fun hz => ?_⟩⟩ (fun ds z => by cases z)) hq
  · obtain ⟨q, m, rfl⟩ := List.mem_map.mp hz
    exact h2 q m
  · obtain ⟨q, m, rfl⟩ := List.mem_map.mp hz
    exact List.mem_map.mpr ⟨q, h1 q m, rfl⟩
/-- e in y, e not in y, y a set -/
def dInSet (i : Nat) (neg : Bool) (t : DT) : DT := fun ρ Q => t ρ fun d => ∃ z, d = tupI z ∧ match ρ[i]? with | some (.sett S) => ∀ b : Bool, (b = true ↔ S z) → Q (.bool (if neg then !b else b)) | _ => False
theorem inSet_run {i : Nat} {neg : Bool} {y : Str} (hi : X.N[i]? = some y) {σ : Sg} {H : Hp} {Q : VK} (h : tD (kw X) (dInSet i neg te) σ H Q) : tOp (rInT2 X.K X.prog X.w neg) (tD (kw X) te) (fun σ H Q => ∃ v, σ[i]? = some (some v) ∧ Q v H) σ H Q := by
  obtain ⟨p, H0, F, ρ, Qd, f, r, q, k⟩ := h
  refine ⟨p, H0, F, ρ, _, f, r, q, fun d v F' H' x hv ⟨z, ed, hq⟩ => ?_⟩
  subst ed
  split at hq
  · rename_i S es
    obtain ⟨a, L, ea, np, ha, hL, hS⟩ := (r.ext x).all i _ es
    cases hv with
    | @tup b xs _ h1 h2 =>
      have ex := h2.ints
      subst ex
      refine ⟨.ref a, slv_of ea, b, a, z, L, rfl, rfl, sqt_same x.fh h1, ha, fun q hq => sqt_same x.fh (hL q hq), ?_⟩
      exact k _ _ F' H' x (.bl _) (hq _ (by rw [decide_eq_true_iff]; exact (hS z).symm))
  · exact hq.elim
theorem de_inSet (i : Nat) {y : Str} (hu : X.A.units + 64 < cLine) (he : DE X e te) (hi : X.N[i]? = some y := by rfl) (hv : Vis X.env.scope y := by first | exact Or.inl rfl | exact Or.inr (Or.inl rfl) | exact Or.inr (Or.inr rfl)) (hd : (y == ("__debug__" : Str)) = false := by decide)
    (hcd : (y == ("__classdict__" : Str)) = false := by decide) (hm : behindInMarks .In (.Name y p1) = false := by rfl) : DE X (.Compare e [.In] [.Name y p1] pos) (dInSet i false te) :=
  PE.wk (pe_cmpR (op_inT2 hu) he (pe_var hi hv hd hcd) hm) fun σ H Q h => inSet_run hi h
theorem de_ninSet (i : Nat) {y : Str} (hu : X.A.units + 64 < cLine) (he : DE X e te) (hi : X.N[i]? = some y := by rfl) (hv : Vis X.env.scope y := by first | exact Or.inl rfl | exact Or.inr (Or.inl rfl) | exact Or.inr (Or.inr rfl)) (hd : (y == ("__debug__" : Str)) = false := by decide)
    (hcd : (y == ("__classdict__" : Str)) = false := by decide) (hm : behindInMarks .NotIn (.Name y p1) = false := by rfl) : DE X (.Compare e [.NotIn] [.Name y p1] pos) (dInSet i true te) :=
  PE.wk (pe_cmpR (op_notInT2 hu) he (pe_var hi hv hd hcd) hm) fun σ H Q h => inSet_run hi h
abbrev cellD (z : Int × Int) : PyData := .tuple [.int z.1, .int z.2]
def cellLt (z w : Int × Int) : Prop := z.1 < w.1 ∨ (z.1 = w.1 ∧ z.2 < w.2)
/-- sorted(set(e)), e cells -/
def dSortSet (t : DT) : DT := fun ρ Q => t ρ fun d => ∃ zs : List (Int × Int), (d = .list (zs.map cellD) ∨ d = .tuple (zs.map cellD)) ∧ zs.length < 64 ∧ (∀ z ∈ zs, (0 ≤ z.1 ∧ z.1 < 64) ∧ 0 ≤ z.2 ∧ z.2 < 64) ∧
  ∀ ws : List (Int × Int), ws.Pairwise cellLt → (∀ z, z ∈ ws ↔ z ∈ zs) → Q (.list (ws.map cellD))
theorem cells_tups (zs : List (Int × Int)) : zs.map cellD = (zs.map fun z => [z.1, z.2]).map tupI := by
  rw [List.map_map]; rfl
theorem pw_cells : ∀ {L : List (Addr × List Int)}, (∀ q ∈ L, ∃ x y : Int, q.2 = [x, y] ∧ (0 ≤ x ∧ x < 64) ∧ 0 ≤ y ∧ y < 64) → (L.map (·.2)).Nodup → L.Pairwise (fun q r => TS.code 64 q.2 ≤ TS.code 64 r.2) →
    ∃ ws : List (Int × Int), (L.map (·.2)) = (ws.map fun z => [z.1, z.2]) ∧ ws.Pairwise cellLt
  | [], _, _, _ => ⟨[], rfl, .nil⟩
  | q :: L, h, nd, pw => by
    rw [List.map_cons, List.nodup_cons] at nd
    rw [List.pairwise_cons] at pw
    obtain ⟨ws, e, p⟩ := pw_cells (fun r hr => h r (List.mem_cons_of_mem _ hr)) nd.2 pw.2
    obtain ⟨x, y, eq, bx, bY⟩ := h q (List.mem_cons_self ..)
    refine ⟨(x, y) :: ws, by rw [List.map_cons, List.map_cons, e, eq], List.pairwise_cons.mpr ⟨fun z hz => ?_, p⟩⟩
    have mz : [z.1, z.2] ∈ L.map (·.2) := by rw [e]; exact List.mem_map.mpr ⟨z, hz, rfl⟩
    obtain ⟨r, hr, er⟩ := List.mem_map.mp mz
    obtain ⟨x', y', er', bx', by'⟩ := h r (List.mem_cons_of_mem _ hr)
    have c := pw.1 r hr
    rw [er'] at er
    injection er with e1 e2
    injection e2 with e2 _
    subst e1 e2
    rw [eq, er'] at c
    exact pair_lt c (fun z' => nd.1 (by rw [eq, z', ← er']; exact List.mem_map.mpr ⟨r, hr, rfl⟩)) bx bY bx' by'
theorem de_sortSet (hc : X.calm = true) (hu : X.A.units + 64 < cLine) (hm : X.mg "set" = none) (hm2 : X.mg "sorted" = none) (he : DE X e te) (hg : Gl X "set" := by rfl) (hv : bootBuiltins "set" = some (.type "set") := by decide +kernel) (hg2 : Gl X "sorted" := by rfl) (hv2 : bootBuiltins "sorted" = some (.builtin "sorted") := by decide +kernel)
    (hn : starEach [e] X.env = (false, eval e X.env) :: starEach [] X.env := by rfl) (hpl : (backTo p2 (starEach [] X.env)).any (·.1) = false := by rfl)
    (hn2 : starEach [.Call (.Name "set" p1) [e] [] p2] X.env = (false, eval (.Call (.Name "set" p1) [e] [] p2) X.env) :: starEach [] X.env := by rfl) (hpl2 : (backTo pos (starEach [] X.env)).any (·.1) = false := by rfl) :
    DE X (.Call (.Name "sorted" p3) [.Call (.Name "set" p1) [e] [] p2] [] pos) (dSortSet te) := by
  refine PE.wk (pe_callB (cr_sortedT hc) hg2 hm2 hv2 (pa_cons (pe_callTy (cr_setA hc hu) hg hm hv (pa_cons he pa_nil hn) (by decide) (by decide) hn hpl) pa_nil hn2) (by decide) (by decide) hn2 hpl2) fun σ H Q ⟨p, H0, F, ρ, Qd, f, r, q, k⟩ => ?_
  refine ⟨p, H0, F, ρ, _, f, r, q, fun d v F' H' x hv ⟨zs, ed, hl, hb, hq⟩ => ?_⟩
  have ta : TupsAs d (zs.map fun z => [z.1, z.2]) := by
    rcases ed with rfl | rfl
    · exact .inl (by rw [cells_tups])
    · exact .inr (by rw [cells_tups])
  obtain ⟨l, ks, rfl, hs, ek, hk⟩ := tupsAs_of hv ta
  have fx := x.fit f
  refine ⟨l, ks, rfl, hs.imp (sql_same x.fh) (sqt_same x.fh), fun q hq => sqt_same x.fh (hk q hq), ?_, fun a L ha h1 h2 => ?_⟩
  · have z := congrArg List.length ek
    rw [List.length_map, List.length_map] at z
    omega
  have cellOf : ∀ q ∈ ks, ∃ u w : Int, (u, w) ∈ zs ∧ q.2 = [u, w] := fun q hq => by
    have m : q.2 ∈ zs.map fun z => [z.1, z.2] := by rw [ek]; exact List.mem_map.mpr ⟨q, hq, rfl⟩
    obtain ⟨z, m2, e⟩ := List.mem_map.mp m
    exact ⟨z.1, z.2, m2, e.symm⟩
  have j := Ext.junk fx (o := SetTO X.prog X.w a L) ha
  have fj := j.fit fx
  refine ⟨a, L, 2, 64, rfl, upd_same, fun q hq => sqt_same j.fh (hk q (h1 q hq)), by decide, fun q hq => ?_, fun L' l2 pm nd few pw hl2 => ?_⟩
  · obtain ⟨u, w, m, e⟩ := cellOf q (h1 q hq)
    rw [e]
    refine ⟨rfl, fun n hn => ?_⟩
    have b := hb _ m
    rcases List.mem_cons.mp hn with rfl | hn
    · exact b.1
    · rw [List.mem_singleton.mp hn]
      exact b.2
  · have sub : ∀ q ∈ L', q ∈ ks := fun q hq => h1 q (pm.mem_iff.mp hq)
    obtain ⟨ws, ew, pws⟩ := pw_cells (fun q hq => by
      obtain ⟨u, w, m, e⟩ := cellOf q (sub q hq)
      exact ⟨u, w, e, hb _ m⟩) nd pw
    have y := Ext.new fj (o := .lst (L'.map fun q => V.ref q.1)) hl2
    have go : ∀ {M : List (Addr × List Int)} {us : List (Int × Int)}, (∀ q ∈ M, SqT X.K F' q.1 (q.2.map V.int)) → M.map (·.2) = (us.map fun z => [z.1, z.2]) → DVs X.K F' (M.map fun q => V.ref q.1) (us.map cellD) := by
      intro M
      induction M with
      | nil =>
        intro us _ e
        cases us with
        | nil => exact .nil
        | cons _ _ => cases e
      | cons q M ih =>
        intro us hM e
        cases us with
        | nil => cases e
        | cons u us =>
          rw [List.map_cons, List.map_cons] at e
          injection e with e1 e2
          refine .cons (.tup (hM q (List.mem_cons_self ..)) ?_) (ih (fun r hr => hM r (List.mem_cons_of_mem _ hr)) e2)
          rw [e1]
          exact .cons (.int _) (.cons (.int _) .nil)
    refine k _ _ _ _ ((x.trans f j).trans f y) (.lst (.of upd_same) ((go (fun q hq => hk q (sub q hq)) ew).mono y.ff)) (hq ws pws fun z => ?_)
    have inj : ∀ {us : List (Int × Int)}, [z.1, z.2] ∈ us.map (fun z => [z.1, z.2]) ↔ z ∈ us := fun {us} => by
      constructor
      · intro m
        obtain ⟨u, m2, e⟩ := List.mem_map.mp m
        injection e with e1 e2
        injection e2 with e2 _
        have : u = z := Prod.ext e1 e2
        rw [← this]; exact m2
      · intro m; exact List.mem_map.mpr ⟨z, m, rfl⟩
    rw [← inj (us := ws), ← ew, ← inj (us := zs), ek]
    constructor
    · intro m
      obtain ⟨q, mq, e⟩ := List.mem_map.mp m
      exact List.mem_map.mpr ⟨q, sub q mq, e⟩
    · intro m
      obtain ⟨q, mq, e⟩ := List.mem_map.mp m
      have z2 := h2 q mq
      rw [e] at z2
      obtain ⟨q2, mq2, e2⟩ := List.mem_map.mp z2
      exact List.mem_map.mpr ⟨q2, pm.mem_iff.mpr mq2, e2⟩
end
end DL


namespace DL
open PySem PySem.Spec PyProof.Rows L2

/-! ### the pot -/
section
variable {k : Kw} {p : Option Addr} {H0 F0 F H : Hp} {σ : Sg} {ρ : Rho} {q : Addr} {a b : Int}
theorem Ext.potw (x : Ext p F0 H0 F H) (f : Fit p F0 H0) (hp : p = some q) (h : 0 ≤ a ∧ 0 ≤ b ∧ b < 4294967296) : Ext p F0 H0 F (upd H q (.lst [.int a, .int b])) := by
  have n := ((x.fit f).pot q hp).1
  refine ⟨x.ff, fun c u e => ?_, fun c u np e => ?_, x.fr, fun c e hc => ?_⟩
  · rw [upd_ne (fun z => by rw [z, n] at e; cases e)]; exact x.fh _ _ e
  · rw [upd_ne (fun z => np (by rw [hp, z]))]; exact x.hh _ _ np e
  · rw [hp] at e
    cases e
    exact ⟨a, b, upd_same, h⟩
theorem Rep.potw (r : Rep k p H0 F H σ ρ) (hp : p = some q) (hq : PotAt H q) (u : HO) : Rep k p H0 F (upd H q u) σ ρ := by
  refine ⟨r.len, fun i sl e => ?_, r.own⟩
  have h := r.all i sl e
  have away : ∀ {c : Addr}, p ≠ some c → c ≠ q := fun n z => n (by rw [hp, z])
  cases sl with
  | emp => trivial
  | dat d => exact h
  | own ds =>
    obtain ⟨c, vs, e, h0, n, np, hh, rv⟩ := h
    exact ⟨c, vs, e, h0, n, np, by rw [upd_ne (away np)]; exact hh, rv⟩
  | pot => exact h
  | sett S =>
    obtain ⟨c, L, e, np, hh, rv⟩ := h
    exact ⟨c, L, e, np, by rw [upd_ne (away np)]; exact hh, rv⟩
  | dic kds =>
    obtain ⟨c, L, ds, e, ⟨h0, n, np, hh⟩, rv⟩ := h
    exact ⟨c, L, ds, e, ⟨h0, n, np, by rw [upd_ne (away np)]; exact hh⟩, rv⟩
  | rdic kds =>
    obtain ⟨c, L, ds, e, ⟨h0, n, np, hh⟩, rv⟩ := h
    exact ⟨c, L, ds, e, ⟨h0, n, np, by rw [upd_ne (away np)]; exact hh⟩, rv⟩
  | mdic c kds =>
    obtain ⟨L, ds, e, ⟨h0, n, np, hh⟩, rv⟩ := h
    exact ⟨L, ds, e, ⟨h0, n, np, by rw [upd_ne (away np)]; exact hh⟩, rv⟩
  | tmp its =>
    obtain ⟨t, vs, as, e, ⟨t0, tf, tp, th⟩, r1, nd⟩ := h
    exact ⟨t, vs, as, e, ⟨t0, tf, tp, by rw [upd_ne (away tp)]; exact th⟩, r1.move fun a ws _ ⟨c0, cf, cp, ch⟩ => ⟨c0, cf, cp, by rw [upd_ne (away cp)]; exact ch⟩, nd⟩
  | fact φ => exact h
end
section
variable {X : Cx} {pos p1 p2 p3 py : Pos} {e : Expr} {te : DT} {to : DOT} {rest : List Stmt} {u : DS}
def dPotIx (i : Nat) (j : Int) : DT := fun ρ Q => match ρ[i]? with | some .pot => (j = 0 ∨ j = 1) ∧ ∀ n : Int, 0 ≤ n → (j = 1 → n < 4294967296) → Q (.int n) | _ => False
theorem de_potIx (i : Nat) {y : Str} {j : Int} {jj : Nat} (hi : X.N[i]? = some y := by rfl) (hv : Vis X.env.scope y := by first | exact Or.inl rfl | exact Or.inr (Or.inl rfl) | exact Or.inr (Or.inr rfl)) (hd : (y == ("__debug__" : Str)) = false := by decide) (hcd : (y == ("__classdict__" : Str)) = false := by decide) :
    DE X (.Subscript (.Name y p1) (.Constant (.int j) jj p2) pos) (dPotIx i j) := by
  refine PE.wk (pe_ix ix_list (pe_var hi hv hd hcd) pe_int (fun _ _ => rfl)) fun σ H Q ⟨p, H0, F, ρ, Qd, f, r, q, k⟩ => ?_
  unfold dPotIx at q
  split at q
  · rename_i ei
    obtain ⟨c, ec, hp⟩ := r.all i _ ei
    obtain ⟨n, a, b, hh, h1, h2, h3⟩ := f.pot c hp
    obtain ⟨hj, q⟩ := q
    rcases hj with rfl | rfl
    · exact ⟨.ref c, slv_of ec, c, _, 0, .int a, rfl, rfl, .of hh, rfl, k _ _ F H (Ext.refl f.sub) (.int _) (q a h1 (fun z => by cases z))⟩
    · exact ⟨.ref c, slv_of ec, c, _, 1, .int b, rfl, rfl, .of hh, rfl, k _ _ F H (Ext.refl f.sub) (.int _) (q b h2 (fun _ => h3))⟩
  · exact q.elim
def dPotSet (i : Nat) (j : Int) (t : DT) : DS := fun D ρ => t ρ fun d => match d, ρ[i]? with | .int n, some .pot => (0 ≤ n ∧ (j = 0 ∨ (j = 1 ∧ n < 4294967296))) ∧ D.nx ρ | _, _ => False
theorem ds_potSet (i : Nat) {y : Str} {j : Int} {jj : Nat} (he : DE X e te) (hi : X.N[i]? = some y := by rfl) (hv : Vis X.env.scope y := by first | exact Or.inl rfl | exact Or.inr (Or.inl rfl) | exact Or.inr (Or.inr rfl)) (hd : (y == ("__debug__" : Str)) = false := by decide) (hcd : (y == ("__classdict__" : Str)) = false := by decide)
    (ha : ∀ v, assign (.Subscript (.Name y p1) (.Constant (.int j) jj p3) p2) X.env v = (do
      let ov ← holding [v] (eval (.Name y p1) X.env)
      let iv ← holding [v, ov] (eval (.Constant (.int j) jj p3) X.env)
      standAt p2
      holding [v, ov, iv] (setItem ov iv v)
      release [v, ov, iv] []) := by intro _; rfl)
    (hs : swapsWithSole [.Subscript (.Name y p1) (.Constant (.int j) jj p3) p2] e pos.line X.env = pure false := by rfl) (hw : swappedStores [.Subscript (.Name y p1) (.Constant (.int j) jj p3) p2] e X.env = pure none := by rfl)
    (h1 : (assignEach [.Subscript (.Name y p1) (.Constant (.int j) jj p3) p2] X.env).map (·.2) = [assign (.Subscript (.Name y p1) (.Constant (.int j) jj p3) p2) X.env] := by rfl) : DP X (.Assign [.Subscript (.Name y p1) (.Constant (.int j) jj p3) p2] e pos) (dPotSet i j te) := by
  refine PS.wk (ps_asg he (pg_sub (pe_var hi hv hd hcd) pe_int set_list ha) hs hw h1) fun D σ H ⟨p, H0, F0, F, ρ, Dd, f, x, r, q, k⟩ => ?_
  refine ⟨p, H0, F, ρ, _, x.fit f, r, q, fun d v F1 H1 y1 hv1 q1 => ?_⟩
  split at q1
  · rename_i n ei
    obtain ⟨c, ec, hp⟩ := r.all i _ ei
    have x1 := x.trans f y1
    have f1 := x1.fit f
    have hpot := (f1.pot c hp).2
    obtain ⟨a, b, hh, z1, z2, z3⟩ := id hpot
    obtain ⟨⟨n0, hj⟩, hq⟩ := q1
    cases hv1
    rcases hj with rfl | ⟨rfl, n1⟩
    · exact ⟨.ref c, slv_of ec, c, _, 0, 0, rfl, rfl, hh, rfl, k.nx σ F1 _ ρ y1.ff (x1.potw f hp ⟨n0, z2, z3⟩) ((r.ext y1).potw hp hpot _) hq⟩
    · exact ⟨.ref c, slv_of ec, c, _, 1, 1, rfl, rfl, hh, rfl, k.nx σ F1 _ ρ y1.ff (x1.potw f hp ⟨z1, n0, n1⟩) ((r.ext y1).potw hp hpot _) hq⟩
  · exact q1.elim

/-! ### the pot is made -/
def calmS : Sl → Bool
  | .emp | .dat _ => true
  | _ => false
def noPotS : Sl → Sl
  | .pot => .emp
  | .rdic _ => .emp
  | .mdic _ _ => .emp
  | s => s
theorem Ext.newPot {p : Option Addr} {F0 H0 F H F2 H2 : Hp} {q : Addr} (x : Ext p F0 H0 F H) (f : Fit p F0 H0) (h0 : H0 q = none) (z : Ext (some q) F H F2 H2) : Ext p F0 H0 F2 H2 := by
  have away : ∀ {c : Addr} {o : HO}, H0 c = some o → some q ≠ some c := fun e w => by
    cases w; rw [h0] at e; cases e
  have still : ∀ {c : Addr} {o : HO}, H0 c = some o → ∃ o', H c = some o' := fun {c o} e => by
    by_cases hp : p = some c
    · obtain ⟨a, b, hh, _⟩ := x.pt c hp (f.pot c hp).2
      exact ⟨_, hh⟩
    · exact ⟨o, x.hh c o hp e⟩
  refine ⟨x.ff.trans z.ff, z.fh, fun c o np e => z.hh c o (away e) (x.hh c o np e), fun c o e n => ?_, fun c hp hc => ?_⟩
  · obtain ⟨o', e'⟩ := still e
    exact z.fr c o' e' (x.fr c o e n)
  · obtain ⟨a0, b0, e0, _⟩ := id hc
    obtain ⟨a, b, hh, r⟩ := x.pt c hp hc
    exact ⟨a, b, z.hh c _ (away e0) hh, r⟩
theorem Ext.back0 {p : Option Addr} {F0 H0 F H : Hp} (x : Ext p F0 H0 F H) (f : Fit p F0 H0) {c : Addr} (h : H c = none) : H0 c = none ∧ p ≠ some c := x.new0 f h
theorem Rep.newPot {k : Kw} {p : Option Addr} {F0 H0 F H F2 H2 : Hp} {q : Addr} {σ : Sg} {ρ : Rho} (x : Ext p F0 H0 F H) (f : Fit p F0 H0) (y : Ext p F0 H0 F2 H2) (r : Rep k (some q) H F2 H2 σ ρ) : Rep k p H0 F2 H2 σ (ρ.map noPotS) := by
  have own_at' : ∀ {j : Nat} {ds : List PyData}, (ρ.map noPotS)[j]? = some (.own ds) → ρ[j]? = some (.own ds) := fun {j ds} e => by
    rw [List.getElem?_map, Option.map_eq_some_iff] at e
    obtain ⟨s, e1, e2⟩ := e
    cases s with
    | own es => cases e2; exact e1
    | _ => cases e2
  refine ⟨by rw [List.length_map]; exact r.len, fun i sl e => ?_, fun i j ds es a e1 e2 => r.own i j ds es a (own_at' e1) (own_at' e2)⟩
  rw [List.getElem?_map, Option.map_eq_some_iff] at e
  obtain ⟨s, e1, rfl⟩ := e
  have h := r.all i s e1
  cases s with
  | emp => trivial
  | dat d => exact h
  | own ds =>
    obtain ⟨c, vs, e, h0, n, np, hh, rv⟩ := h
    have z := x.new0 f h0
    exact ⟨c, vs, e, z.1, n, z.2, hh, rv⟩
  | pot => trivial
  | sett S =>
    obtain ⟨c, L, e, np, hh, rv⟩ := h
    refine ⟨c, L, e, fun hp => ?_, hh, rv⟩
    obtain ⟨a, b, h2, _⟩ := y.pt c hp (f.pot c hp).2
    rw [hh] at h2; cases h2
  | dic kds =>
    obtain ⟨c, L, ds, e, ⟨h0, n, np, hh⟩, rv⟩ := h
    have z := x.new0 f h0
    exact ⟨c, L, ds, e, ⟨z.1, n, z.2, hh⟩, rv⟩
  | tmp its =>
    obtain ⟨t, vs, as, e, ⟨t0, tf, tp, th⟩, r1, nd⟩ := h
    have z := x.new0 f t0
    exact ⟨t, vs, as, e, ⟨z.1, tf, z.2, th⟩, r1.move fun a ws _ ⟨c0, cf, cp, ch⟩ => ⟨(x.new0 f c0).1, cf, (x.new0 f c0).2, ch⟩, nd⟩
  | rdic kds => trivial
  | mdic c kds => trivial
  | fact φ => exact h
theorem ResOk.newPot {k : Kw} {p p' : Option Addr} {F0 H0 F H F2 H2 : Hp} {v : V} {r : Res} (x : Ext p F0 H0 F H) (f : Fit p F0 H0) (h : ResOk k p' H F2 H2 v r) : ResOk k p H0 F2 H2 v r := by
  cases r with
  | dat d => exact h
  | own ds =>
    obtain ⟨b', vs, e1, e2, e3, e4, e5, e6⟩ := h
    have z2 := x.new0 f e2
    exact ⟨b', vs, e1, z2.1, e3, z2.2, e5, e6⟩
/-- y = e, a new list of two ints: the pot of what follows -/
def dPot (i : Nat) (t : DOT) (u : DS) : DS := fun D ρ => ρ.all calmS = true ∧ t ρ fun ds => match ds with
  | [.int a, .int b] => (0 ≤ a ∧ 0 ≤ b ∧ b < 4294967296) ∧ u { nx := fun ρ' => D.nx (ρ'.map noPotS), rt := D.rt, bk := fun ρ' => D.bk (ρ'.map noPotS), ct := fun ρ' => D.ct (ρ'.map noPotS) } (ρ.set i .pot)
  | _ => False
theorem dss_pot (i : Nat) {y : Str} (hN : X.N.Nodup) (he : DO X e to) (hr : DPs X rest u) (hi : X.N[i]? = some y := by rfl) (hx : Loc X.env.scope y := by first | exact Or.inl rfl | exact Or.inr rfl) (hs : swapsWith e (some (.Name y py)) pos.line X.env = pure false := by rfl)
    (hf : X.fn y = true ∨ X.env.scope.names.lookup y = some .local := by first | exact .inl rfl | exact .inr rfl) : DPs X (.Assign [.Name y py] e pos :: rest) (dPot i to u) := by
  refine PSs.wk (pss_cons (ps_set hN hi hx he hs hf) hr) fun D σ H ⟨p, H0, F0, F, ρ, Dd, f, x, r, ⟨calm, q⟩, k⟩ => ?_
  refine ⟨p, H0, F, ρ, _, x.fit f, r, q, fun ds v F' H' y hv hq => ?_⟩
  split at hq
  · rename_i a b
    obtain ⟨ok, hq⟩ := hq
    obtain ⟨c, vs, rfl, h0, n, np, eh, rv⟩ := hv
    have ev : vs = [.int a, .int b] := by
      cases rv with
      | cons h1 t => cases h1; cases t with | cons h2 t => cases h2; cases t; rfl
    subst ev
    have x2 := x.trans f y
    have h00 := (x.new0 f h0).1
    have f2 : Fit (some c) F' H' := ⟨y.fh, fun q e => by cases e; exact ⟨n, a, b, eh, ok⟩⟩
    have r2 : Rep (kw X) (some c) H' F' H' (σ.set i (some (.ref c))) (ρ.set i .pot) := by
      have rr := r.ext y
      have il : ∀ {j : Nat} {sl : Sl}, ρ[j]? = some sl → calmS sl = true := fun e => by
        rw [List.all_eq_true] at calm
        exact calm _ (List.mem_of_getElem? e)
      refine ⟨by simp [r.len], fun j sl e => ?_, fun j l ds es a' e1 e2 => ?_⟩
      · by_cases hj : i = j
        · subst hj
          have hl : i < ρ.length := by
            have := (List.getElem?_eq_some_iff.mp e).1
            simpa using this
          rw [List.getElem?_set_self hl] at e
          cases e
          rw [slv_set_same (by rw [r.len]; exact hl)]
          exact ⟨c, rfl, rfl⟩
        · rw [List.getElem?_set_ne hj] at e
          rw [slv_set_ne hj]
          have h := rr.all j sl e
          have cs := il e
          cases sl with
          | emp => trivial
          | dat d => exact h
          | _ => cases cs
      · exfalso
        by_cases hj : i = j
        · subst hj
          have hl : i < ρ.length := by
            have := (List.getElem?_eq_some_iff.mp e1).1
            simpa using this
          rw [List.getElem?_set_self hl] at e1
          cases e1
        · rw [List.getElem?_set_ne hj] at e1
          have cs := il e1
          cases cs
    refine ⟨some c, H', F', F', _, _, f2, Ext.refl y.fh, r2, hq, ?_⟩
    have go : ∀ {F2 H2 : Hp}, Ext (some c) F' H' F2 H2 → Ext p F0 H0 F2 H2 := fun z => x2.newPot f h00 z
    refine ⟨fun σ2 F2 H2 ρ2 s2 z r2 hq => k.nx σ2 F2 H2 _ (y.ff.trans s2) (go z) (r2.newPot x2 f (go z)) hq, fun σ2 F2 H2 ρ2 s2 z r2 hq => k.bk σ2 F2 H2 _ (y.ff.trans s2) (go z) (r2.newPot x2 f (go z)) hq,
      fun σ2 F2 H2 ρ2 s2 z r2 hq => k.ct σ2 F2 H2 _ (y.ff.trans s2) (go z) (r2.newPot x2 f (go z)) hq, fun rr v F2 H2 z hr hq => k.rt rr v F2 H2 (go z) (hr.newPot x2 f) hq⟩
  · exact hq.elim
end
end DL


namespace DL
open PySem PySem.Spec PyProof.Rows L2

/-! ### the law itself -/
/-- from a script of at most n ints: True -/
def dfLaw (n : Nat) : DF := fun as Q => match as with
  | [.d (.list ds)] => (∃ ns : List Int, ds = ns.map .int ∧ ns.length ≤ n) ∧ Q (.dat (.bool true))
  | _ => False
section
variable {P : Program} {w : World} {K : PySem.W.Frag} {mg mb : Str → Option Value} {k n : Nat} {a : Addr} {st : Stmt} {x : String} {y : Str} {s₁ : Shared} {vs : List Value} {ns : List Int}
theorem ends_true {H : Hp} {fa : Addr} {fd : FuncData} {base : Heap} (G : FnG P w K mg base CX0 k fa fd [y] (spD ⟨K, P, w⟩ (dfLaw n))) (hr : Rm k callerA) (b : BindsTo s₁ fd ⟨[.ref a], []⟩ [(y, .ref a)]) (e0 : Env0 P w K mg base callerA [] s₁ H) (hl : ns.length ≤ n) (hS : SqL K H a (ns.map V.int))
    (only : ∀ c, H c = none ∨ ∃ o xs, H c = some (.frz o (.lst xs))) (hok : HOk P w H s₁.heap) :
    codeAny (model P w) callerA (.call (.ref fa) ⟨[.ref a], []⟩) (fun r s' => r = .ok (.ret (.bool true)) ∧ OldK s₁.heap s'.heap ∧ s'.os = s₁.os ∧ AllBare s'.gens) s₁ := by
  have sp : spD ⟨K, P, w⟩ (dfLaw n) [.ref a] H (fun v _ => v = .bl true) (fun _ _ _ => False) := by
    refine ⟨none, H, [.d (.list (ns.map .int))], fun r => r = .dat (.bool true), ⟨Same.refl _, fun q e => nomatch e⟩, .cons (.d (.lst hS (DVs.of_ints ns))) .nil, ⟨⟨ns, rfl, hl⟩, rfl⟩, fun r v F' H' _ hv e => ?_⟩
    subst e
    cases (show DV K F' v (.bool true) from hv)
    rfl
  refine codeAny_mono (G.run callerA [] s₁ H ⟨[.ref a], []⟩ [.ref a] [.ref a] _ _ hr e0 b (.cons rfl .nil) sp) fun r s' h => ?_
  match r, h with
  | .error e, h => exact False.elim h
  | .ok .next, h => exact False.elim h
  | .ok .brk, h => exact False.elim h
  | .ok .cont, h => exact False.elim h
  | .ok (.ret u), h =>
    obtain ⟨v, H', os, bare, un, hok', rv, ev⟩ := h
    have ev' : v = .bl true := ev
    subst ev'
    have eu : u = Value.bool true := rv
    subst eu
    refine ⟨rfl, OldK.of_keep fun c o e => ?_, os, bare⟩
    rcases only c with z | ⟨ob, xs, z⟩
    · exact un.keep c o e z (by intro m; exact absurd (show c ∈ ([] : List Addr) from m) (by simp)) (by simp)
    · obtain ⟨e1, _⟩ := hok c _ z
      obtain ⟨e2, _⟩ := hok' c _ (un.frzs c ob _ z)
      rw [e] at e1
      cases e1
      exact e2
theorem base_mod {H : Hp} (KX : K.In s₁.heap) (hns : s₁.heap.Ns mainGlobals mg) (hb : s₁.heap.Ns builtinsNs mb) (hbb : ∀ x : Str, x ≠ "__name__" → mb x = bootBuiltins x) (hlim : s₁.heap.NoLimit) (ha : s₁.heap.get? a = some { cls := .type "list", data := .seq vs.toArray })
    (one : ∀ c, H c ≠ none → c = a) (apart : H a ≠ none → K.lookup a = none) : Mod K mg (hidT s₁.heap H) ∧ (hidT s₁.heap H).Ns mainGlobals mg := by
  have free : ∀ {c : Addr} {o : Obj} {es : Array DictEntry} {ep : Nat}, s₁.heap.get? c = some o → o.data = .dict es ep → H c = none := fun {c o es ep} e d => by
    refine Classical.byContradiction fun q => ?_
    have ec := one c q
    subst ec
    rw [ha] at e
    cases e
    have d' : Data.seq vs.toArray _ = Data.dict es ep := d
    cases d'
  have names : ∀ {c : Addr} {m : Str → Option Value}, s₁.heap.Ns c m → (hidT s₁.heap H).Ns c m := fun {c m} ⟨o, es, ep, e, d, r⟩ => ⟨o, es, ep, hidT_get e (free e d), d, r⟩
  have kin : K.In (hidT s₁.heap H) := fun c o e => hidT_get (KX c o e) (by
    refine Classical.byContradiction fun q => ?_
    have ec := one c q
    subst ec
    rw [apart q] at e
    cases e)
  obtain ⟨mc, l1, l2⟩ := hlim
  exact ⟨⟨kin, names hns, ⟨mb, names hb, hbb⟩, ⟨mc, names l1, l2⟩⟩, names hns⟩
theorem law_callG (KX : K.In s₁.heap) (hns : s₁.heap.Ns mainGlobals mg) (hb : s₁.heap.Ns builtinsNs mb) (hbb : ∀ x : Str, x ≠ "__name__" → mb x = bootBuiltins x) (hlim : s₁.heap.NoLimit) (hg : s₁.gens = #[])
    (ha : s₁.heap.get? a = some { cls := .type "list", data := .seq vs.toArray }) (hi : IntsAre vs ns) (hl : ns.length ≤ n) (hn : n ≤ sizeLine) (hr : Rm k callerA) {fa : Addr} (hm : mg (Str.ofString x) = some (.ref fa))
    (F : ∀ base : Heap, K.In base → base.Ns mainGlobals mg → Good P w K mg base x st k [y] (dfLaw n)) :
    codeAny (model P w) callerA (.call (.ref fa) ⟨[.ref a], []⟩) (fun r s' => r = .ok (.ret (.bool true)) ∧ OldK s₁.heap s'.heap ∧ s'.os = s₁.os ∧ AllBare s'.gens) s₁ := by
  have rv := vals_ints hi
  have le := hi.length
  have go : ∀ H : Hp, (∀ c, H c = none ∨ ∃ o xs, H c = some (.frz o (.lst xs))) → SqL K H a (ns.map V.int) → HOk P w H s₁.heap → (∀ c, H c ≠ none → c = a) → (H a ≠ none → K.lookup a = none) →
      codeAny (model P w) callerA (.call (.ref fa) ⟨[.ref a], []⟩) (fun r s' => r = .ok (.ret (.bool true)) ∧ OldK s₁.heap s'.heap ∧ s'.os = s₁.os ∧ AllBare s'.gens) s₁ := by
    intro H only hS hok one apart
    obtain ⟨M, hns2⟩ := base_mod KX hns hb hbb hlim ha one apart
    obtain ⟨fa', fd, hm', FF, B, G⟩ := F _ M.kin hns2
    rw [hm] at hm'
    cases hm'
    have b0 := B s₁ [.ref a] KX (by simp)
    have b1 : BindsTo s₁ fd ⟨[.ref a], []⟩ [(y, .ref a)] := b0
    exact ends_true G hr b1 ⟨rfl, M, fun c o e => of_hidT e, Nat.le_of_eq (hidT_size _ _), trivial, fun c hc => absurd (show c ∈ ([] : List Addr) from hc) (by simp), hok, .of_eq hg⟩ hl hS only hok
  cases hk : K.lookup a with
  | some o =>
    have e := KX a o hk
    rw [ha] at e
    cases e
    exact go (fun _ => none) (fun _ => .inl rfl) (.inr ⟨_, vs.toArray, _, hk, rfl, rfl, rfl, by rw [List.size_toArray, le]; omega, by simpa using rv⟩) (fun c u z => nomatch (show (none : Option HO) = some u from z)) (fun c z => absurd rfl z) fun z => absurd rfl z
  | none =>
    let ob : Obj := { cls := .type "list", data := .seq vs.toArray }
    have at_ : (fun c => if c = a then some (HO.frz ob (.lst (ns.map V.int))) else none) a = some (HO.frz ob (.lst (ns.map V.int))) := if_pos rfl
    refine go (fun c => if c = a then some (.frz ob (.lst (ns.map V.int))) else none) (fun c => ?_) (.inl (.inr ⟨ob, at_⟩)) (fun c u z => ?_) (fun c z => ?_) fun _ => hk
    · rcases Classical.em (c = a) with e | e
      · exact .inr ⟨_, _, if_pos e⟩
      · exact .inl (if_neg e)
    · rcases Classical.em (c = a) with e | e
      · subst e
        have z' := at_.symm.trans z
        cases z'
        exact ⟨ha, by rw [List.length_map]; omega, vs, _, rv, ha⟩
      · have z' := (if_neg e).symm.trans z
        cases z'
    · exact Classical.byContradiction fun e => z (if_neg e)
end
/-- the goal that k_head leaves -/
theorem walkG {l : PySem.W.OpenLaw} {n k : Nat} {q : Program} {loose : List Str} {XP : (Str → Option Value) → Heap → Prop} {YP : World → Heap → Prop} {d : DefRec} {K : Params → PySem.W.Frag} {st : Stmt} {x : String} {y : Str}
    (hn : l.most = some n) (hn2 : n ≤ sizeLine) (hdf : d.params.defaults = []) (hx : d.name = Str.ofString x) (hr : Rm k callerA) (hY : ∀ (w : World) (h : Heap), YP w h → (K w.params).In h)
    (F : ∀ (w : World) (mg : Str → Option Value) (h : Heap), (K w.params).In h → h.Ns mainGlobals mg → ∀ base : Heap, (K w.params).In base → base.Ns mainGlobals mg → Good l.prog w (K w.params) mg base x st k [y] (dfLaw n)) :
    PySem.W.WalkO q loose XP YP l.row.toRowW d [] (fun f vs => PySem.call f vs) := by
  refine Att.attach_call hn hdf fun w s₀ s₁ mg mb fa o pm cd doc a vs ns G Y ho hd hcd hmg hobj hints hlen hg => ?_
  have KX := hY w _ Y
  rw [hx] at hmg
  exact law_callG KX G.T.g G.T.b G.T.builtins G.T.nolimit hg hobj hints hlen hn2 hr hmg (F w mg _ KX G.T.g)
theorem rm_caller {k : Nat} (hr : Room k callerA := by exact ⟨rfl, by decide, by decide⟩) (g : callerA.guards = some [] := by rfl) : Rm k callerA := ⟨hr, g⟩
end DL


namespace DL
open PySem PySem.Spec PyProof.Rows L2

/-! ### data laws -/
theorem okD_int (i : Int) : okD (.int i) = true := by simp [okD, PyData.hasDict, SeqAt.shaped, PyData.canLay0, PyData.depth]
theorem okD_bool (i : Bool) : okD (.bool i) = true := by simp [okD, PyData.hasDict, SeqAt.shaped, PyData.canLay0, PyData.depth]
theorem okD_none : okD .none = true := by simp [okD, PyData.hasDict, SeqAt.shaped, PyData.canLay0, PyData.depth]
theorem okD_str {x : Str} (h : PyData.strOk x = true) : okD (.str x) = true := by simp [okD, PyData.hasDict, SeqAt.shaped, PyData.canLay0, PyData.depth, h]
theorem eqv_int (i j : Int) : PyData.eqv (.int i) (.int j) = decide (i = j) := by
  show (i == j) = decide (i = j)
  rfl
theorem eqv_str (i j : Str) : PyData.eqv (.str i) (.str j) = (i == j) := by simp [PyData.eqv]
theorem boolsOf_map' {α : Type} (f : α → Bool) (ds : List α) : boolsOf (ds.map fun d => .bool (f d)) = some (ds.map f) := by
  have := boolsOf_map (ds.map f)
  rw [List.map_map] at this
  exact this
theorem gAll_map {α : Type} (f : α → Bool) (ds : List α) (Q : PyData → Prop) (h : Q (.bool (ds.all f))) : gAll false [.list (ds.map fun d => .bool (f d))] Q := by
  refine ⟨ds.map f, by rw [List.map_map]; rfl, ?_⟩
  simpa [List.all_map] using h
theorem lcD_map {i : Nat} {te : DT} {ρ : Rho} {Q : List PyData → Prop} (f : PyData → PyData) : ∀ (ds acc : List PyData), (∀ d ∈ ds, ∀ Q : PyData → Prop, Q (f d) → te (ρ.set i (.dat d)) Q) → acc.length + ds.length ≤ 16777216 → Q (acc ++ ds.map f) → lcD (gSet i) dYes te ρ ds acc Q
  | [], acc, _, _, h => by simpa [lcD] using h
  | d :: ds, acc, ht, hl, h => by
    simp only [lcD, gSet, dYes]
    refine ht d (List.mem_cons_self ..) _ ⟨by simp at hl; omega, ?_⟩
    refine lcD_map f ds _ (fun e he => ht e (List.mem_cons_of_mem _ he)) (by simp at hl ⊢; omega) ?_
    simpa using h
/-- any target, any test, any item: by what is true of what was laid so far -/
theorem lcD_inv {g : DGT} {tt : DTT} {te : DT} {ρ : Rho} {Q : List PyData → Prop} (I : List PyData → List PyData → Prop) : ∀ (ds acc : List PyData), I ds acc → acc.length + ds.length ≤ 16777216 →
    (∀ d ds acc (N : List PyData → Prop), I (d :: ds) acc → acc.length < 16777216 → (∀ acc', I ds acc' → acc'.length ≤ acc.length + 1 → N acc') → g d ρ fun ρ1 => tt ρ1 fun b => match b with | true => te ρ1 fun y => acc.length < 16777216 ∧ N (acc ++ [y]) | false => N acc) → (∀ acc, I [] acc → Q acc) → lcD g tt te ρ ds acc Q
  | [], acc, h, _, _, fin => fin acc h
  | d :: ds, acc, h, hl, step, fin => by
    simp only [lcD]
    exact step d ds acc _ h (by simp at hl; omega) fun acc' h' hl' => lcD_inv I ds acc' h' (by simp at hl; omega) step fin
theorem loopD_inv {g : DGT} {tb : DS} {D : DEnds} (I : Nat → Rho → Prop) : ∀ (ds : List PyData) (n : Nat) (ρ : Rho), I n ρ → (∀ (k : Nat) d ρ (N : Rho → Prop), ds[k]? = some d → I (n + k) ρ → (∀ ρ', I (n + k + 1) ρ' → N ρ') → g d ρ fun ρ1 => tb { D with nx := N, ct := N, bk := D.nx } ρ1) → (∀ ρ, I (n + ds.length) ρ → D.nx ρ) → loopD g tb D ds ρ
  | [], n, ρ, h, _, fin => by
    simp only [loopD]
    exact fin ρ (by simpa using h)
  | d :: ds, n, ρ, h, step, fin => by
    simp only [loopD]
    refine step 0 d ρ _ (by simp) (by simpa using h) fun ρ' h' => ?_
    refine loopD_inv I ds (n + 1) ρ' (by simpa using h') (fun k e ρ2 N he h2 hN => ?_) (fun ρ2 h2 => fin ρ2 (by simpa [Nat.add_comm, Nat.add_left_comm, Nat.add_assoc] using h2))
    have z : n + 1 + k = n + (k + 1) := by omega
    exact step (k + 1) e ρ2 N (by simpa using he) (by rw [← z]; exact h2) (by intro ρ3 h3; exact hN ρ3 (by rw [z]; exact h3))
/-! ### tests: in a set -/
section
variable {X : Cx} {pos p1 : Pos} {e : Expr} {te : DT}
theorem inSet_test {i : Nat} {neg : Bool} {y : Str} (hi : X.N[i]? = some y) {σ : Sg} {H : Hp} {Q : Bool → Hp → Prop} (h : tDT (kw X) (dTr (dInSet i neg te)) σ H Q) :
    tOp (rInT2 X.K X.prog X.w neg) (tD (kw X) te) (fun σ H Q => ∃ v, σ[i]? = some (some v) ∧ Q v H) σ H fun v H1 => ∃ b, v = .bl b ∧ Q b H1 := by
  obtain ⟨p, H0, F, ρ, Qd, f, r, q, k⟩ := h
  refine inSet_run hi ⟨p, H0, F, ρ, _, f, r, q, fun d v F' H' x hv hq => ?_⟩
  cases d with
  | bool b => cases hv; exact ⟨b, rfl, k b F' H' x hq⟩
  | _ => exact hq.elim
theorem dc_inSet (i : Nat) {y : Str} (hu : X.A.units + 64 < cLine) (he : DE X e te) (hi : X.N[i]? = some y := by rfl) (hv : Vis X.env.scope y := by first | exact Or.inl rfl | exact Or.inr (Or.inl rfl) | exact Or.inr (Or.inr rfl)) (hd : (y == ("__debug__" : Str)) = false := by decide)
    (hcd : (y == ("__classdict__" : Str)) = false := by decide) (hm : behindInMarks .In (.Name y p1) = false := by rfl) : DC X (.Compare e [.In] [.Name y p1] pos) (dTr (dInSet i false te)) :=
  PT.wk (pt_cmpR (op_inT2 hu) he (pe_var hi hv hd hcd) hm) fun σ H Q h => inSet_test hi h
theorem dc_ninSet (i : Nat) {y : Str} (hu : X.A.units + 64 < cLine) (he : DE X e te) (hi : X.N[i]? = some y := by rfl) (hv : Vis X.env.scope y := by first | exact Or.inl rfl | exact Or.inr (Or.inl rfl) | exact Or.inr (Or.inr rfl)) (hd : (y == ("__debug__" : Str)) = false := by decide)
    (hcd : (y == ("__classdict__" : Str)) = false := by decide) (hm : behindInMarks .NotIn (.Name y p1) = false := by rfl) : DC X (.Compare e [.NotIn] [.Name y p1] pos) (dTr (dInSet i true te)) :=
  PT.wk (pt_cmpR (op_notInT2 hu) he (pe_var hi hv hd hcd) hm) fun σ H Q h => inSet_test hi h
end
end DL


namespace DL
open PySem PySem.Spec PyProof.Rows L2
/-! ### repr of any data; == of texts -/
def ReprOk (d : PyData) : Prop := d.hasDict = false ∧ d.showable = true ∧ d.depth ≤ 40 ∧ d.shown.length ≤ 16777216
def gReprA : G1 := fun ds Q => match ds with
  | [d] => ReprOk d ∧ Q (.str d.shown)
  | _ => False
def rReprA (K : PySem.W.Frag) : List V → Hp → VK → Prop := fun vs H Q => ∃ (x : V) (d : PyData), vs = [x] ∧ Dp K H x d ∧ d.hasDict = false ∧ d.showable = true ∧ d.depth ≤ 40 ∧ d.shown.length ≤ sizeLine ∧ Q (.str d.shown) H
section
variable {X : Cx}
theorem cr_reprA (hg : X.A.guards = some []) (hu : X.A.units + 64 < cLine) : CallR X (.builtin "repr") (rReprA X.K) := by
  intro pins s σ H vs us Q I r h
  obtain ⟨x, d, rfl, hd, hn, hs, hdp, hsz, q⟩ := h
  have ref : ∀ a : Addr, x = .ref a → wpAny (model X.prog X.w) X.A (call (.builtin "repr") us) (EP X pins σ Q) X.xe s := fun a e => by
    subst e
    exact cr_reprD hg hu pins s σ H _ us Q I r ⟨a, d, rfl, hd, hn, hs, hdp, hsz, q⟩
  cases hd with
  | non =>
    cases r with
    | cons ru rt =>
      cases rt
      cases ru
      exact PySem.P.repr_of_none ⟨.str (PyData.shown .none), H, I.tok _, ⟨_, rfl⟩, q⟩
  | bl b =>
    cases r with
    | cons ru rt =>
      cases rt
      cases ru
      exact PySem.P.repr_of_bool ⟨.str (PyData.shown (.bool b)), H, I.tok _, ⟨_, by cases b <;> rfl⟩, q⟩
  | int i =>
    cases r with
    | cons ru rt =>
      cases rt
      obtain ⟨t, rfl⟩ := ru
      have lg : i.natAbs.log2 < 1920 := by simpa [PyData.showable] using hs
      exact PySem.P.repr_of_int lg ⟨.str (PyData.shown (.int i)), H, I.tok _, ⟨_, rfl⟩, q⟩
  | str z =>
    cases r with
    | cons ru rt =>
      cases rt
      obtain ⟨t, rfl⟩ := ru
      exact PySem.P.repr_of_str ⟨.str (PyData.shown (.str z)), H, I.tok _, ⟨_, rfl⟩, q⟩ (by simpa [PyData.shown] using hsz)
  | _ => exact ref _ rfl
theorem cd_reprA (hg : X.A.guards = some []) (hu : X.A.units + 64 < cLine) : CallD X (.builtin "repr") gReprA := by
  refine ⟨_, cr_reprA hg hu, fun p F H vs ds Qd Q f hv h q => ?_⟩
  unfold gReprA at h
  split at h
  · rename_i d
    cases hv with
    | cons h1 t =>
      cases t
      obtain ⟨⟨a1, a2, a3, a4⟩, hq⟩ := h
      exact ⟨_, d, rfl, (h1.mono f.sub).dp a1, a1, a2, a3, by rw [sl_eq]; exact a4, q _ _ F H (Ext.refl f.sub) (.str _) hq⟩
  · exact h.elim
def gEqR (neg : Bool) : G2 := fun d e Q => match d, e with | .str x, .str y => Q (.bool (if neg then !decide (x = y) else decide (x = y))) | _, _ => False
theorem dec_strV {x y : Str} : decide (V.str x = V.str y) = decide (x = y) := by
  by_cases h : x = y
  · subst h; simp
  · simp [h]
theorem od_eqR : OpD X (compareOp .Eq) (gEqR false) := by
  refine ⟨_, op_eq, fun p F H x y d e Qd Q f rx ry hg q => ?_⟩
  unfold gEqR at hg
  split at hg
  · cases rx; cases ry
    exact ⟨rfl, by rw [dec_strV]; exact q _ _ F H (Ext.refl f.sub) (.bl _) hg⟩
  · exact hg.elim
theorem od_neR : OpD X (compareOp .NotEq) (gEqR true) := by
  refine ⟨_, op_ne, fun p F H x y d e Qd Q f rx ry hg q => ?_⟩
  unfold gEqR at hg
  split at hg
  · cases rx; cases ry
    exact ⟨rfl, by rw [dec_strV]; exact q _ _ F H (Ext.refl f.sub) (.bl _) hg⟩
  · exact hg.elim
end
end DL


/-! Dicts of data whose keys are tuples of ints. -/
namespace DL
open PySem PySem.Spec PyProof.Rows L2
abbrev dictD (kvs : List (List Int × PyData)) : PyData := .dict (kvs.map fun p => (tupI p.1, p.2))
def lookT (kvs : List (List Int × PyData)) (z : List Int) : Option PyData := (kvs.find? fun p => decide (p.1 = z)).map (·.2)
theorem tupI_inj {a b : List Int} (h : tupI a = tupI b) : a = b := by
  injection h with h
  exact (List.map_inj_right (fun _ _ e => PyData.int.inj e)).mp h
theorem lookT_cons (p : List Int × PyData) (r : List (List Int × PyData)) (z : List Int) : lookT (p :: r) z = if p.1 = z then some p.2 else lookT r z := by
  unfold lookT
  by_cases e : p.1 = z
  · simp [List.find?_cons, e]
  · simp [List.find?_cons, e]
theorem getT_cons (p : List Int × Addr × V) (r : DL3) (z : List Int) : getT (p :: r) z = if p.1 = z then some p.2.2 else getT r z := by
  unfold getT
  by_cases e : p.1 = z
  · simp [List.find?_cons, e]
  · simp [List.find?_cons, e]
section
variable {K : PySem.W.Frag} {F : Hp}
theorem dict_inv {v : V} {d : PyData} {kvs : List (PyData × PyData)} (h : DV K F v d) (e : d = .dict kvs) : kvs = [] ∨ ∃ (a : Addr) (L : DL3) (ds : List PyData), v = .ref a ∧ F a = some (DicTO a L) ∧ (∀ p ∈ L, SqT K F p.2.1 (p.1.map V.int)) ∧ DVs K F (L.map fun p => p.2.2) ds ∧ kvs = (L.map fun p => PyData.tuple (p.1.map PyData.int)).zip ds := by
  cases h with
  | dct h => injection e with e; exact .inl e.symm
  | dcT h k r z => injection e with e; subst e; exact .inr ⟨_, _, _, rfl, h, k, r, z⟩
  | _ => cases e
theorem look_get {z : List Int} {c : PyData} : ∀ {L : DL3} {kvs : List (List Int × PyData)} {ds : List PyData}, kvs.map (fun p => (tupI p.1, p.2)) = (L.map fun p => PyData.tuple (p.1.map PyData.int)).zip ds → DVs K F (L.map fun p => p.2.2) ds → lookT kvs z = some c → ∃ v, getT L z = some v ∧ DV K F v c
  | [], kvs, ds, e, r, h => by
    cases kvs with
    | nil => cases h
    | cons q kvs => cases e
  | p :: L, kvs, ds, e, r, h => by
    cases r with
    | @cons _ _ d ds' h1 h2 =>
      cases kvs with
      | nil => cases h
      | cons q kvs =>
        rw [List.map_cons, List.map_cons, List.zip_cons_cons] at e
        injection e with e1 e2
        injection e1 with e1 e3
        have ek : q.1 = p.1 := tupI_inj e1
        rw [lookT_cons] at h
        rw [getT_cons]
        by_cases z1 : q.1 = z
        · rw [if_pos z1] at h
          rw [if_pos (ek.symm.trans z1)]
          cases h
          exact ⟨_, rfl, by rw [e3]; exact h1⟩
        · rw [if_neg z1] at h
          rw [if_neg (fun y => z1 (ek.trans y))]
          exact look_get e2 h2 h
end
def gDGet : G2 := fun d e Q => ∃ kvs z c, d = dictD kvs ∧ e = tupI z ∧ lookT kvs z = some c ∧ Q c
def rDGetT (X : Cx) : R2 := fun x y H Q => ∃ (a b : Addr) (k : List Int) (L : DL3) (v : V), x = .ref a ∧ y = .ref b ∧ IsDT X H a L ∧ SqT X.K H b (k.map V.int) ∧ getT L k = some v ∧ Q v H
section
variable {X : Cx} {pos : Pos} {a b : Expr} {ta tb : DT}
/-- d[k], d a dict of data -/
theorem de_dget (hu : X.A.units + 1 < cLine) (ha : DE X a ta) (hb : DE X b tb) (hs : NoSl b := by exact fun _ _ => rfl) : DE X (.Subscript a b pos) (dOp gDGet ta tb) := by
  refine PE.wk (pe_dgetT hu ha hb hs) fun σ H Q h => dop_run (r := rDGetT X) ?_ h
  intro p F H x y d e Qd Q f rx ry hg q
  obtain ⟨kvs, z, c, rfl, rfl, hl, hq⟩ := hg
  rcases dict_inv rx rfl with e | ⟨a, L, ds, rfl, hF, hk, hv, e⟩
  · rw [List.map_eq_nil_iff] at e
    subst e
    cases hl
  · obtain ⟨v, g, rv⟩ := look_get e hv hl
    cases ry with
    | @tup b xs _ h1 h2 =>
      have ex := h2.ints
      subst ex
      exact ⟨a, b, z, L, v, rfl, rfl, ⟨f.sub _ _ hF, fun p hp => sqt_same f.sub (hk p hp)⟩, sqt_same f.sub h1, g, q _ _ F H (Ext.refl f.sub) rv hq⟩
end

/-! ### own dicts -/
section
variable {K : PySem.W.Frag} {F : Hp}
theorem look_some {z : List Int} : ∀ {L : DL3} {ds : List PyData}, DVs K F (L.map fun p => p.2.2) ds → (lookT ((L.map fun q => q.1).zip ds) z).isSome = (getT L z).isSome
  | [], ds, r => rfl
  | p :: L, ds, r => by
    cases r with
    | @cons _ _ d ds' h1 h2 =>
      rw [List.map_cons, List.zip_cons_cons, lookT_cons, getT_cons]
      by_cases e : p.1 = z
      · rw [if_pos e, if_pos e]; rfl
      · rw [if_neg e, if_neg e]; exact look_some h2
end
section
variable {X : Cx} {pos p1 p2 : Pos} {e : Expr} {te : DT}
/-- y = {} -/
def dDicNew (i : Nat) : DS := fun D ρ => D.nx (ρ.set i (.dic []))
theorem ds_dicNew (i : Nat) {y : Str} (hN : X.N.Nodup) (hi : X.N[i]? = some y := by rfl) (hx : Loc X.env.scope y := by first | exact Or.inl rfl | exact Or.inr rfl)
    (hs : swapsWith (.Dict [] [] p2) (some (.Name y p1)) pos.line X.env = pure false := by rfl) (hf : X.fn y = true ∨ X.env.scope.names.lookup y = some .local := by first | exact .inl rfl | exact .inr rfl) :
    DP X (.Assign [.Name y p1] (.Dict [] [] p2) pos) (dDicNew i) := by
  refine PS.wk (ps_set hN hi hx pe_dnewTO hs hf) fun D σ H ⟨p, H0, F0, F, ρ, Dd, f, x, r, q, k⟩ => fun a ha => ?_
  have fx := x.fit f
  have j := Ext.junk fx (o := DicTO a []) ha
  exact k.nx _ F _ _ (Same.refl _) (x.trans f j) ((r.ext j).set i (some (.ref a)) (sl := .dic []) ⟨a, [], [], rfl, ⟨(x.back0 f ha).1, fx.none ha, fx.ne ha, upd_same⟩, (fun q hq => nomatch hq), .nil, rfl⟩ (fun ds z => by cases z)) q
/-- e in y, e not in y, y an own dict -/
def dInDic (i : Nat) (neg : Bool) (t : DT) : DT := fun ρ Q => t ρ fun d => ∃ z, d = tupI z ∧ match ρ[i]? with | some (.dic kds) => Q (.bool (if neg then !(lookT kds z).isSome else (lookT kds z).isSome)) | _ => False
theorem inDic_run {i : Nat} {neg : Bool} {y : Str} (hi : X.N[i]? = some y) {σ : Sg} {H : Hp} {Q : VK} (h : tD (kw X) (dInDic i neg te) σ H Q) : tOp (rInDT X neg) (tD (kw X) te) (fun σ H Q => ∃ v, σ[i]? = some (some v) ∧ Q v H) σ H Q := by
  obtain ⟨p, H0, F, ρ, Qd, f, r, q, k⟩ := h
  refine ⟨p, H0, F, ρ, _, f, r, q, fun d v F' H' x hv ⟨z, ed, hq⟩ => ?_⟩
  subst ed
  split at hq
  · rename_i S es
    obtain ⟨a, L, ds, ea, ⟨h0, n, np, ha⟩, hL, hS, rfl⟩ := (r.ext x).all i _ es
    cases hv with
    | @tup b xs _ h1 h2 =>
      have ex := h2.ints
      subst ex
      rw [look_some hS] at hq
      exact ⟨.ref a, slv_of ea, a, b, z, L, rfl, rfl, ⟨ha, fun q hq => sqt_same x.fh (hL q hq)⟩, sqt_same x.fh h1, k _ _ F' H' x (.bl _) hq⟩
  · exact hq.elim
theorem de_inDic (i : Nat) {y : Str} (hu : X.A.units + 1 < cLine) (he : DE X e te) (hi : X.N[i]? = some y := by rfl) (hv : Vis X.env.scope y := by first | exact Or.inl rfl | exact Or.inr (Or.inl rfl) | exact Or.inr (Or.inr rfl)) (hd : (y == ("__debug__" : Str)) = false := by decide)
    (hcd : (y == ("__classdict__" : Str)) = false := by decide) (hm : behindInMarks .In (.Name y p1) = false := by rfl) : DE X (.Compare e [.In] [.Name y p1] pos) (dInDic i false te) :=
  PE.wk (pe_cmpR (op_inDT hu) he (pe_var hi hv hd hcd) hm) fun σ H Q h => inDic_run hi h
theorem de_ninDic (i : Nat) {y : Str} (hu : X.A.units + 1 < cLine) (he : DE X e te) (hi : X.N[i]? = some y := by rfl) (hv : Vis X.env.scope y := by first | exact Or.inl rfl | exact Or.inr (Or.inl rfl) | exact Or.inr (Or.inr rfl)) (hd : (y == ("__debug__" : Str)) = false := by decide)
    (hcd : (y == ("__classdict__" : Str)) = false := by decide) (hm : behindInMarks .NotIn (.Name y p1) = false := by rfl) : DE X (.Compare e [.NotIn] [.Name y p1] pos) (dInDic i true te) :=
  PE.wk (pe_cmpR (op_notInDT hu) he (pe_var hi hv hd hcd) hm) fun σ H Q h => inDic_run hi h
end

/-! ### y[k] = v -/
def putD (kds : List (List Int × PyData)) (z : List Int) (c : PyData) : List (List Int × PyData) := if (lookT kds z).isSome = true then kds.map (fun p => if p.1 = z then (p.1, c) else p) else kds ++ [(z, c)]
section
variable {K : PySem.W.Frag} {F : Hp}
theorem repl_rel {z : List Int} {v : V} {c : PyData} (rv : DV K F v c) : ∀ {L : DL3} {ds : List PyData}, DVs K F (L.map fun p => p.2.2) ds →
    ∃ ds', DVs K F ((L.map fun p => if p.1 = z then (p.1, p.2.1, v) else p).map fun p => p.2.2) ds' ∧ ((L.map fun q => q.1).zip ds).map (fun p => if p.1 = z then (p.1, c) else p) = ((L.map fun p => if p.1 = z then (p.1, p.2.1, v) else p).map fun q => q.1).zip ds'
  | [], ds, r => ⟨[], .nil, by simp⟩
  | p :: L, ds, r => by
    cases r with
    | @cons _ _ d ds' h1 h2 =>
      obtain ⟨es, r1, e1⟩ := repl_rel (z := z) rv h2
      by_cases e : p.1 = z
      · refine ⟨c :: es, ?_, ?_⟩
        · simp only [List.map_cons, if_pos e]; exact .cons rv r1
        · simp only [List.map_cons, List.zip_cons_cons, if_pos e]; rw [e1]
      · refine ⟨d :: es, ?_, ?_⟩
        · simp only [List.map_cons, if_neg e]; exact .cons h1 r1
        · simp only [List.map_cons, List.zip_cons_cons, if_neg e]; rw [e1]
theorem put_rel {z : List Int} {b : Addr} {v : V} {c : PyData} {L : DL3} {ds : List PyData} (rv : DV K F v c) (r : DVs K F (L.map fun p => p.2.2) ds) :
    ∃ ds', DVs K F ((putT L z b v).map fun p => p.2.2) ds' ∧ putD ((L.map fun q => q.1).zip ds) z c = ((putT L z b v).map fun q => q.1).zip ds' := by
  unfold putD putT
  rw [look_some r]
  split
  · exact repl_rel rv r
  · have hl := r.length
    refine ⟨ds ++ [c], ?_, ?_⟩
    · rw [List.map_append]; exact r.append (.cons rv .nil)
    · rw [List.map_append, List.zip_append (by simpa using hl)]; rfl
end
def plainS : Sl → Bool
  | .sett _ => false
  | .dic _ => false
  | .mdic _ _ => false
  | .tmp _ => false
  | _ => true
def lone (ρ : Rho) (i : Nat) : Bool := (ρ.set i .emp).all plainS
theorem Rep.wdic {k : Kw} {p : Option Addr} {H0 F H : Hp} {σ : Sg} {ρ : Rho} (r : Rep k p H0 F H σ ρ) {i : Nat} {kds kds' : List (List Int × PyData)} {a : Addr} {L' : DL3} {ds' : List PyData} {L : DL3} (e : ρ[i]? = some (.dic kds)) (ea : slv σ i = some (.ref a))
    (h : H0 a = none ∧ F a = none ∧ p ≠ some a ∧ H a = some (DicTO a L)) (lo : lone ρ i = true) (hk : ∀ q ∈ L', SqT k.K F q.2.1 (q.1.map V.int)) (hv : DVs k.K F (L'.map fun q => q.2.2) ds') (hz : kds' = (L'.map fun q => q.1).zip ds') :
    Rep k p H0 F (upd H a (DicTO a L')) σ (ρ.set i (.dic kds')) := by
  have hi : i < ρ.length := (List.getElem?_eq_some_iff.mp e).1
  refine ⟨by simp [r.len], fun j s q => ?_, fun j l es es' b e1 e2 e3 e4 => ?_⟩
  · by_cases hj : i = j
    · subst hj
      rw [List.getElem?_set_self hi] at q
      cases q
      exact ⟨a, L', ds', ea, ⟨h.1, h.2.1, h.2.2.1, upd_same⟩, hk, hv, hz⟩
    · rw [List.getElem?_set_ne hj] at q
      have hs := r.all j s q
      have pl : plainS s = true := by
        unfold lone at lo
        rw [List.all_eq_true] at lo
        exact lo s (List.mem_of_getElem? (i := j) (by rw [List.getElem?_set_ne hj]; exact q))
      cases s with
      | emp => trivial
      | dat d => exact hs
      | own es =>
        obtain ⟨b, ws, eb, b0, bn, bp, bh, br⟩ := hs
        have nab : b ≠ a := fun z => by rw [z, h.2.2.2] at bh; cases bh
        exact ⟨b, ws, eb, b0, bn, bp, by rw [upd_ne nab]; exact bh, br⟩
      | pot => exact hs
      | sett S => cases pl
      | dic d => cases pl
      | mdic b d => cases pl
      | rdic d =>
        obtain ⟨b, L, ds, eb, ⟨b0, bn, bp, bh⟩, br⟩ := hs
        have nab : b ≠ a := fun z => b0 (z ▸ h.1)
        exact ⟨b, L, ds, eb, ⟨b0, bn, bp, by rw [upd_ne nab]; exact bh⟩, br⟩
      | tmp d1 => cases pl
      | fact φ => exact hs
  · have at_ : ∀ {j : Nat} {es : List PyData}, (ρ.set i (.dic kds'))[j]? = some (.own es) → ρ[j]? = some (.own es) := fun {j es} q => by
      by_cases hj : i = j
      · subst hj
        rw [List.getElem?_set_self hi] at q
        cases q
      · rw [List.getElem?_set_ne hj] at q; exact q
    exact r.own j l _ _ b (at_ e1) (at_ e2) e3 e4

section
variable {X : Cx} {pos p1 p2 : Pos} {ek ev : Expr} {tk tv : DT}
/-- y[k] = v, y an own dict -/
def dDicPut (i : Nat) (tk tv : DT) : DS := fun D ρ => match ρ[i]? with
  | some (.dic kds) => lone ρ i = true ∧ kds.length < 1000 ∧ tv ρ fun c => tk ρ fun d => ∃ z, d = tupI z ∧ D.nx (ρ.set i (.dic (putD kds z c)))
  | _ => False
theorem ds_dicPut (i : Nat) {y : Str} (hu : X.A.units + 1 < cLine) (hk : DE X ek tk) (hv : DE X ev tv) (hi : X.N[i]? = some y := by rfl) (hy : Vis X.env.scope y := by first | exact Or.inl rfl | exact Or.inr (Or.inl rfl) | exact Or.inr (Or.inr rfl)) (hd : (y == ("__debug__" : Str)) = false := by decide)
    (hcd : (y == ("__classdict__" : Str)) = false := by decide) (hs : swapsWith ev (some (.Subscript (.Name y p1) ek p2)) pos.line X.env = pure false := by rfl) :
    DP X (.Assign [.Subscript (.Name y p1) ek p2] ev pos) (dDicPut i tk tv) := by
  refine PS.wk (ps_dputT hu (pe_var hi hy hd hcd) hk hv hs) fun D σ H ⟨p, H0, F0, F, ρ, Dd, f, x, r, q, k⟩ => ?_
  unfold dDicPut at q
  split at q
  · rename_i kds es
    obtain ⟨lo, hl, q⟩ := q
    refine ⟨p, H0, F, ρ, _, x.fit f, r, q, fun c v F1 H1 y1 rv hq => ?_⟩
    obtain ⟨a, L, ds, ea, hw, hL, hS, hz⟩ := (r.ext y1).all i _ es
    refine ⟨.ref a, slv_of ea, p, H0, F1, ρ, _, y1.fit (x.fit f), r.ext y1, hq, fun d w F2 H2 y2 rw' ⟨z, ed, hn⟩ => ?_⟩
    subst ed
    obtain ⟨a', L', ds', ea', hw', hL', hS', hz'⟩ := ((r.ext y1).ext y2).all i _ es
    rw [ea] at ea'
    cases ea'
    cases rw' with
    | @tup b xs _ h1 h2 =>
      have ex := h2.ints
      subst ex
      obtain ⟨es', r1, e1⟩ := put_rel (z := z) (b := b) (rv.mono y2.ff) hS'
      have hlen : L'.length < 1000 := by
        have e := hS'.length
        rw [hz', List.length_zip, List.length_map] at hl
        rw [List.length_map] at e
        omega
      refine ⟨a, b, z, L', rfl, rfl, ⟨hw'.2.2.2, fun p hp => sqt_same y2.fh (hL' p hp)⟩, sqt_same y2.fh h1, by rw [sl_eq]; omega, ?_⟩
      exact k.nx _ F2 _ _ (y1.ff.trans y2.ff) ((((x.trans f y1).trans f y2)).write hw'.1 hw'.2.1 hw'.2.2.1)
        (((r.ext y1).ext y2).wdic es ea hw' lo (fun q hq => by
          rcases keys_putT hq with ⟨z1, z2⟩ | ⟨q', hq', z1, z2⟩
          · rw [z1, z2]; exact h1
          · rw [z1, z2]; exact hL' q' hq') r1 (by rw [hz']; exact e1)) hn
  · exact q.elim
end

/-! ### dict(pairs) -/
abbrev pairP (p : List Int × PyData) : PyData := .tuple [tupI p.1, p.2]
section
variable {K : PySem.W.Frag} {F : Hp}
theorem pairs_inv : ∀ {kvs : List (List Int × PyData)} {vs : List V}, DVs K F vs (kvs.map pairP) →
    ∃ (ps : List Addr) (L : DL3), vs = ps.map V.ref ∧ Paired (fun p (kv : List Int × Addr × V) => SqT K F p [.ref kv.2.1, kv.2.2]) ps L ∧ (∀ kv ∈ L, SqT K F kv.2.1 (kv.1.map V.int)) ∧ DVs K F (L.map fun q => q.2.2) (kvs.map fun p => p.2) ∧ (L.map fun q => q.1) = kvs.map fun p => p.1
  | [], _, .nil => ⟨[], [], rfl, .nil, (fun q hq => nomatch hq), .nil, rfl⟩
  | p :: kvs, _, .cons h t => by
    obtain ⟨ps, L, e1, e2, e3, e4, e5⟩ := pairs_inv t
    cases h with
    | @tup a xs _ h1 h2 =>
      cases h2 with
      | @cons v1 _ _ _ g1 g2 =>
        cases g2 with
        | @cons v2 _ _ _ g2 g3 =>
          cases g3
          cases g1 with
          | @tup b ys _ k1 k2 =>
            have ex := k2.ints
            subst ex
            refine ⟨a :: ps, (p.1, b, v2) :: L, by rw [e1]; rfl, .cons h1 e2, fun q hq => ?_, .cons g2 e4, by rw [List.map_cons, List.map_cons, e5]⟩
            rcases List.mem_cons.mp hq with rfl | hq
            · exact k1
            · exact e3 q hq
end
theorem getT_none : ∀ {L : DL3} {z : List Int}, z ∉ L.map (fun q => q.1) → getT L z = none
  | [], z, h => rfl
  | p :: L, z, h => by
    rw [List.map_cons, List.mem_cons, not_or] at h
    rw [getT_cons, if_neg (fun e => h.1 e.symm)]
    exact getT_none h.2
theorem mergeT_new : ∀ (L M : DL3), ((M.map fun q => q.1) ++ L.map fun q => q.1).Nodup → mergeT M L = M ++ L
  | [], M, _ => by simp [mergeT]
  | p :: L, M, nd => by
    have e : mergeT M (p :: L) = mergeT (putT M p.1 p.2.1 p.2.2) L := rfl
    have nz : p.1 ∉ M.map fun q => q.1 := fun hm => by
      rw [List.nodup_append] at nd
      exact nd.2.2 _ hm _ (by rw [List.map_cons]; exact List.mem_cons_self ..) rfl
    have ep : putT M p.1 p.2.1 p.2.2 = M ++ [p] := by
      unfold putT
      rw [getT_none nz]
      rfl
    rw [e, ep, mergeT_new L (M ++ [p]) (by rw [List.map_append, List.append_assoc]; exact nd), List.append_assoc]
    rfl
/-- dict(e), e a list of pairs -/
def dDictP (t : DT) : DT := fun ρ Q => t ρ fun d => ∃ kvs, d = .list (kvs.map pairP) ∧ (kvs.map fun p => p.1).Nodup ∧ Q (dictD kvs)
section
variable {X : Cx} {pos p1 : Pos} {e : Expr} {te : DT}
theorem de_dictP (hc : X.calm = true) (hu : X.A.units + 2 < cLine) (hm : X.mg "dict" = none) (he : DE X e te) (hg : Gl X "dict" := by rfl) (hv : bootBuiltins "dict" = some (.type "dict") := by decide +kernel)
    (hn : starEach [e] X.env = (false, eval e X.env) :: starEach [] X.env := by rfl) (hpl : (backTo pos (starEach [] X.env)).any (·.1) = false := by rfl) : DE X (.Call (.Name "dict" p1) [e] [] pos) (dDictP te) := by
  refine PE.wk (pe_callTy (cr_dictT hc hu) hg hm hv (pa_cons he pa_nil hn) (by decide) (by decide) hn hpl) fun σ H Q ⟨p, H0, F, ρ, Qd, f, r, q, k⟩ => ?_
  refine ⟨p, H0, F, ρ, _, f, r, q, fun d v F' H' x hv ⟨kvs, ed, nd, hq⟩ => ?_⟩
  subst ed
  cases hv with
  | @lst l xs _ h1 h2 =>
    obtain ⟨ps, L, e1, e2, e3, e4, e5⟩ := pairs_inv h2
    subst e1
    refine ⟨l, ps, L, rfl, sql_same x.fh h1, Paired.mapP e2 (fun _ _ z => sqt_same x.fh z), fun kv hk => sqt_same x.fh (e3 kv hk), fun a ha => ?_⟩
    have y := Ext.new (x.fit f) (o := DicTO a L) ha
    have em : mergeT [] L = L := by
      have z := mergeT_new L [] (by rw [List.map_nil, List.nil_append, e5]; exact nd)
      rw [List.nil_append] at z; exact z
    rw [em]
    refine k _ _ _ _ (x.trans f y) (.dcT upd_same (fun q hq => sqt_same y.ff (e3 q hq)) (e4.mono y.ff) ?_) hq
    have ez : (L.map fun q => PyData.tuple (q.1.map PyData.int)) = kvs.map fun q => tupI q.1 := by
      have z := congrArg (List.map tupI) e5
      rw [List.map_map, List.map_map] at z
      exact z
    rw [ez, List.zip_map']
end
end DL


namespace DL
open PySem PySem.Spec PyProof.Rows L2

/-! ### a new list, so many times -/
section
variable {X : Cx} {pos : Pos} {a b : Expr} {ta : DOT} {tb : DT}
def oMul (ta : DOT) (tb : DT) : DOT := fun ρ Q => ta ρ fun ds => tb ρ fun d => match d with | .int k => (0 ≤ k ∧ k ≤ 1000 ∧ ds.length ≤ 1000) ∧ Q (List.replicate k.toNat ds).flatten | _ => False
theorem do_mul (ha : DO X a ta) (hb : DE X b tb) : DO X (.BinOp a .Mult b pos) (oMul ta tb) := by
  refine PE.wk (pe_op op_rep ha hb) fun σ H Q ⟨p, H0, F, ρ, Qd, f, r, q, k⟩ => ?_
  refine ⟨p, H0, F, ρ, _, f, r, q, fun ds v F1 H1 x1 hv q1 => ?_⟩
  obtain ⟨l, vs, rfl, h0, n, hp, eh, rv⟩ := hv
  refine ⟨p, H0, F1, ρ, _, x1.fit f, r.ext x1, q1, fun d w F2 H2 x2 hw q2 => ?_⟩
  cases d with
  | int j =>
    cases hw
    obtain ⟨⟨b1, b2, b3⟩, q2⟩ := q2
    have x := x1.trans f x2
    have fx := x.fit f
    have e2 := x2.hh l _ hp eh
    have lv := rv.length
    refine ⟨l, j, vs, rfl, rfl, e2, by omega, by omega, ?_, fun c hc => ?_⟩
    · rw [sl_eq, lv]
      have a1 : ds.length * j.toNat ≤ 1000 * 1000 := Nat.mul_le_mul b3 (by omega)
      omega
    · have n0 := x.new0 f hc
      exact k _ (.ref c) F2 _ (x.trans f (Ext.junk fx hc)) ⟨c, _, rfl, n0.1, fx.none hc, n0.2, upd_same, (rv.mono x2.ff).rep _⟩ q2
  | _ => exact q2.elim
end

/-! ### y[e], y an own list -/
section
variable {X : Cx} {pos p1 : Pos} {e : Expr} {te : DT}
def dIxOwn (i : Nat) (t : DT) : DT := fun ρ Q => match ρ[i]? with | some (.own ds) => t ρ fun d => (match d with | .int n => ∃ x, atI ds n = some x ∧ Q x | _ => False) | _ => False
theorem de_ixOwn (i : Nat) {y : Str} (he : DE X e te) (hi : X.N[i]? = some y := by rfl) (hv : Vis X.env.scope y := by first | exact Or.inl rfl | exact Or.inr (Or.inl rfl) | exact Or.inr (Or.inr rfl)) (hd : (y == ("__debug__" : Str)) = false := by decide)
    (hcd : (y == ("__classdict__" : Str)) = false := by decide) (hs : PlainIx e := by exact fun _ _ => rfl) : DE X (.Subscript (.Name y p1) e pos) (dIxOwn i te) := by
  refine PE.wk (pe_ix ix_list (pe_var hi hv hd hcd) he hs) fun σ H Q ⟨p, H0, F, ρ, Qd, f, r, q, k⟩ => ?_
  unfold dIxOwn at q
  split at q
  · rename_i ds ei
    obtain ⟨a, vs, es, ea, h0, n, hp, eh, rv⟩ := own_at r ei
    refine ⟨.ref a, es, p, H0, F, ρ, _, f, r, q, fun d w F1 H1 x1 hw q1 => ?_⟩
    cases d with
    | int j =>
      cases hw
      obtain ⟨x, ex, hq⟩ := q1
      obtain ⟨v, ev, hv⟩ := atI_rel (rv.mono x1.ff) ex
      exact ⟨a, vs, j, v, rfl, rfl, .of (x1.hh a _ hp eh), ev, k x v F1 H1 x1 hv hq⟩
    | _ => exact q1.elim
  · exact q.elim
end

/-! ### tests in an own dict -/
section
variable {X : Cx} {pos p1 : Pos} {e : Expr} {te : DT}
theorem inDic_test {i : Nat} {neg : Bool} {y : Str} (hi : X.N[i]? = some y) {σ : Sg} {H : Hp} {Q : Bool → Hp → Prop} (h : tDT (kw X) (dTr (dInDic i neg te)) σ H Q) :
    tOp (rInDT X neg) (tD (kw X) te) (fun σ H Q => ∃ v, σ[i]? = some (some v) ∧ Q v H) σ H fun v H1 => ∃ b, v = .bl b ∧ Q b H1 := by
  obtain ⟨p, H0, F, ρ, Qd, f, r, q, k⟩ := h
  refine inDic_run hi ⟨p, H0, F, ρ, _, f, r, q, fun d v F' H' x hv hq => ?_⟩
  cases d with
  | bool b => cases hv; exact ⟨b, rfl, k b F' H' x hq⟩
  | _ => exact hq.elim
theorem dc_inDic (i : Nat) {y : Str} (hu : X.A.units + 1 < cLine) (he : DE X e te) (hi : X.N[i]? = some y := by rfl) (hv : Vis X.env.scope y := by first | exact Or.inl rfl | exact Or.inr (Or.inl rfl) | exact Or.inr (Or.inr rfl)) (hd : (y == ("__debug__" : Str)) = false := by decide)
    (hcd : (y == ("__classdict__" : Str)) = false := by decide) (hm : behindInMarks .In (.Name y p1) = false := by rfl) : DC X (.Compare e [.In] [.Name y p1] pos) (dTr (dInDic i false te)) :=
  PT.wk (pt_cmpR (op_inDT hu) he (pe_var hi hv hd hcd) hm) fun σ H Q h => inDic_test hi h
theorem dc_ninDic (i : Nat) {y : Str} (hu : X.A.units + 1 < cLine) (he : DE X e te) (hi : X.N[i]? = some y := by rfl) (hv : Vis X.env.scope y := by first | exact Or.inl rfl | exact Or.inr (Or.inl rfl) | exact Or.inr (Or.inr rfl)) (hd : (y == ("__debug__" : Str)) = false := by decide)
    (hcd : (y == ("__classdict__" : Str)) = false := by decide) (hm : behindInMarks .NotIn (.Name y p1) = false := by rfl) : DC X (.Compare e [.NotIn] [.Name y p1] pos) (dTr (dInDic i true te)) :=
  PT.wk (pt_cmpR (op_notInDT hu) he (pe_var hi hv hd hcd) hm) fun σ H Q h => inDic_test hi h
end

/-! ### a, b, c = x, y, z: data, new lists, new dicts -/
inductive RZ where
  | dat (d : PyData)
  | own (ds : List PyData)
  | dic
def RZ.sl : RZ → Sl
  | .dat d => .dat d
  | .own ds => .own ds
  | .dic => .dic []
def RzOk (k : Kw) (p : Option Addr) (H0 F H : Hp) (v : V) : RZ → Prop
  | .dat d => DV k.K F v d
  | .own ds => ∃ a vs, v = .ref a ∧ H0 a = none ∧ F a = none ∧ p ≠ some a ∧ H a = some (.lst vs) ∧ DVs k.K F vs ds
  | .dic => ∃ a, v = .ref a ∧ H0 a = none ∧ F a = none ∧ p ≠ some a ∧ H a = some (DicTO a [])
abbrev DZT := Rho → (RZ → Prop) → Prop
def tZ (k : Kw) (t : DZT) : TE := fun σ H Q => ∃ p H0 F ρ, ∃ Qd : RZ → Prop, Fit p F H ∧ Rep k p H0 F H σ ρ ∧ t ρ Qd ∧ ∀ r v F' H', Ext p F H F' H' → RzOk k p H F' H' v r → Qd r → Q v H'
abbrev DZ (X : Cx) (e : Expr) (t : DZT) : Prop := PE X e (tZ (kw X) t)
def zD (t : DT) : DZT := fun ρ Q => t ρ fun d => Q (.dat d)
def zO (t : DOT) : DZT := fun ρ Q => t ρ fun ds => Q (.own ds)
def zC : DZT := fun _ Q => Q .dic
section
variable {X : Cx} {pos p2 : Pos}
theorem dz_d {e : Expr} {t : DT} (h : DE X e t) : DZ X e (zD t) := PE.wk h fun σ H Q ⟨p, H0, F, ρ, Qd, f, r, q, k⟩ => ⟨p, H0, F, ρ, _, f, r, q, fun d v F' H' x hv hq => k (.dat d) v F' H' x hv hq⟩
theorem dz_o {e : Expr} {t : DOT} (h : DO X e t) : DZ X e (zO t) := PE.wk h fun σ H Q ⟨p, H0, F, ρ, Qd, f, r, q, k⟩ => ⟨p, H0, F, ρ, _, f, r, q, fun d v F' H' x hv hq => k (.own d) v F' H' x hv hq⟩
theorem dz_c : DZ X (.Dict [] [] p2) zC := PE.wk pe_dnewTO fun σ H Q ⟨p, H0, F, ρ, Qd, f, r, q, k⟩ => fun a ha =>
  k .dic (.ref a) F _ (Ext.junk f ha) ⟨a, rfl, ha, f.none ha, f.ne ha, upd_same⟩ q
theorem RzOk.ext {k : Kw} {p : Option Addr} {H F1 H1 F2 H2 : Hp} {v : V} {r : RZ} (h : RzOk k p H F1 H1 v r) (x : Ext p F1 H1 F2 H2) : RzOk k p H F2 H2 v r := by
  cases r with
  | dat d => exact DV.mono x.ff h
  | own ds =>
    obtain ⟨a, vs, e, h0, n, hp, eh, rv⟩ := h
    exact ⟨a, vs, e, h0, x.fr a _ eh n, hp, x.hh a _ hp eh, rv.mono x.ff⟩
  | dic =>
    obtain ⟨a, e, h0, n, hp, eh⟩ := h
    exact ⟨a, e, h0, x.fr a _ eh n, hp, x.hh a _ hp eh⟩
/-- each own list stood in Hb -/
def LiveIn (Hb : Hp) (σ : Sg) (ρ : Rho) : Prop := ∀ j es a, ρ[j]? = some (.own es) → slv σ j = some (.ref a) → Hb a ≠ none
theorem Rep.live {k : Kw} {p : Option Addr} {H0 F H : Hp} {σ : Sg} {ρ : Rho} (r : Rep k p H0 F H σ ρ) : LiveIn H σ ρ := fun j es a e w => by
  obtain ⟨b, vs, eb, _, _, _, hb, _⟩ := r.all j _ e
  rw [w] at eb
  cases eb
  rw [hb]
  exact fun z => by cases z
theorem Rep.putZ {k : Kw} {p : Option Addr} {H0 F0 Fb Hb F H : Hp} {σ : Sg} {ρ : Rho} (f : Fit p F0 H0) (x0 : Ext p F0 H0 Fb Hb) (lv : LiveIn Hb σ ρ) (r : Rep k p H0 F H σ ρ) (i : Nat) {v : V} {z : RZ} (hz : RzOk k p Hb F H v z) :
    Rep k p H0 F H (σ.set i (some v)) (ρ.set i z.sl) := by
  cases z with
  | dat d => exact r.set i (some v) (sl := .dat d) ⟨v, rfl, hz⟩ (fun ds z => by cases z)
  | own ds =>
    obtain ⟨a, vs, rfl, h0, n, hp, eh, rv⟩ := hz
    exact r.setOwn i (x0.new0 f h0).1 n hp eh rv fun j es _ e w => lv j es a e w h0
  | dic =>
    obtain ⟨a, rfl, h0, n, hp, eh⟩ := hz
    exact r.set i (some (.ref a)) (sl := .dic []) ⟨a, [], [], rfl, ⟨(x0.new0 f h0).1, n, hp, eh⟩, (fun q hq => nomatch hq), .nil, rfl⟩ (fun ds z => by cases z)
def dPar3 (i j l : Nat) (t u w : DZT) : DS := fun D ρ => t ρ fun r1 => u ρ fun r2 => w ρ fun r3 => D.nx (((ρ.set i r1.sl).set j r2.sl).set l r3.sl)
theorem ds_par3 (i j l : Nat) {a b c : Expr} {x y z : Str} {px py pz pt : Pos} {kt k2 : Nat} {pt2 : Pos} {t u w : DZT} (hc : X.calm = true) (hN : X.N.Nodup) (ha : DZ X a t) (hb : DZ X b u) (hcc : DZ X c w) (hij : i ≠ j := by decide) (hil : i ≠ l := by decide) (hjl : j ≠ l := by decide)
    (hi : X.N[i]? = some x := by rfl) (hj : X.N[j]? = some y := by rfl) (hl : X.N[l]? = some z := by rfl)
    (hx : X.env.scope.names.lookup x = some .local := by rfl) (hy : X.env.scope.names.lookup y = some .local := by rfl) (hz : X.env.scope.names.lookup z = some .local := by rfl)
    (hw : swappedStores [.Tuple [.Name x px, .Name y py, .Name z pz] kt pt] (.Tuple [a, b, c] k2 pt2) X.env = pure (some [x, y, z]) := by rfl)
    (hs : swapsWithSole [.Tuple [.Name x px, .Name y py, .Name z pz] kt pt] (.Tuple [a, b, c] k2 pt2) pos.line X.env = pure false := by rfl)
    (e1 : starEach [a, b, c] X.env = (false, eval a X.env) :: starEach [b, c] X.env := by rfl) (e2 : starEach [b, c] X.env = (false, eval b X.env) :: starEach [c] X.env := by rfl) (e3 : starEach [c] X.env = (false, eval c X.env) :: starEach [] X.env := by rfl) :
    DP X (.Assign [.Tuple [.Name x px, .Name y py, .Name z pz] kt pt] (.Tuple [a, b, c] k2 pt2) pos) (dPar3 i j l t u w) := by
  refine PS.wk (ps_par3 hc hN hi hj hl hij hil hjl hx hy hz (pa_cons ha (pa_cons hb (pa_cons hcc pa_nil e3) e2) e1) hw hs) fun D σ H ⟨p, H0, F0, F, ρ, Dd, f, x, r, q, k⟩ => ?_
  refine ⟨p, H0, F, ρ, _, x.fit f, r, q, fun r1 v1 F1 H1 y1 z1 q1 => ?_⟩
  have x1 := x.trans f y1
  refine ⟨p, H0, F1, ρ, _, x1.fit f, r.ext y1, q1, fun r2 v2 F2 H2 y2 z2 q2 => ?_⟩
  have x2 := x1.trans f y2
  refine ⟨p, H0, F2, ρ, _, x2.fit f, (r.ext y1).ext y2, q2, fun r3 v3 F3 H3 y3 z3 q3 => ?_⟩
  have x3 := x2.trans f y3
  refine ⟨v1, v2, v3, rfl, k.nx _ F3 H3 _ ((y1.ff.trans y2.ff).trans y3.ff) x3 ?_ q3⟩
  have ra := (r.ext y1).putZ f x r.live i z1
  have rb := (ra.ext y2).putZ f x1 ra.live j z2
  exact (rb.ext y3).putZ f x2 rb.live l z3
end

/-! ### a list of new lists and data -/
abbrev DNT := Rho → (List (Bool × PyData) → Prop) → Prop
def tN (k : Kw) (u : DNT) : TA := fun σ H Q => ∃ p H0 F ρ, ∃ Qd : List (Bool × PyData) → Prop, Fit p F H ∧ Rep k p H0 F H σ ρ ∧ u ρ Qd ∧ ∀ its vs as F' H', Ext p F H F' H' → NIs k p H F' H' vs its as → as.Nodup → Qd its → Q vs H'
abbrev DN (X : Cx) (es : List Expr) (u : DNT) : Prop := PA X es (tN (kw X) u)
def dNNil : DNT := fun _ Q => Q []
def dND (t : DT) (u : DNT) : DNT := fun ρ Q => t ρ fun d => u ρ fun its => Q ((false, d) :: its)
def dNO (t : DOT) (u : DNT) : DNT := fun ρ Q => t ρ fun ds => u ρ fun its => Q ((true, .list ds) :: its)
theorem NIs.fresh {k : Kw} {p : Option Addr} {H0 F H : Hp} {vs : List V} {its : List (Bool × PyData)} {as : List Addr} (h : NIs k p H0 F H vs its as) : ∀ a ∈ as, H0 a = none ∧ F a = none ∧ p ≠ some a ∧ ∃ ws, H a = some (.lst ws) := by
  induction h with
  | nil => exact fun a ha => nomatch ha
  | dat _ _ ih => exact ih
  | own h _ _ ih =>
    exact fun b hb => by
      rcases List.mem_cons.mp hb with rfl | hb
      · exact ⟨h.1, h.2.1, h.2.2.1, _, h.2.2.2⟩
      · exact ih b hb
section
variable {X : Cx} {pos p1 p2 : Pos} {e : Expr} {es : List Expr} {t : DT} {to : DOT} {u : DNT}
theorem dn_nil : DN X [] dNNil := PA.wk pa_nil fun σ H Q ⟨p, H0, F, ρ, Qd, f, r, q, k⟩ => k [] [] [] F H (Ext.refl f.sub) .nil .nil q
theorem dn_d (h : DE X e t) (hr : DN X es u) (he : starEach (e :: es) X.env = (false, eval e X.env) :: starEach es X.env := by rfl) : DN X (e :: es) (dND t u) := by
  refine PA.wk (pa_cons h hr he) fun σ H Q ⟨p, H0, F, ρ, Qd, f, r, q, k⟩ => ?_
  refine ⟨p, H0, F, ρ, _, f, r, q, fun d v F' H' x hv hq => ?_⟩
  refine ⟨p, H0, F', ρ, _, x.fit f, r.ext x, hq, fun its vs as F2 H2 x2 v2 nd q2 => ?_⟩
  exact k _ _ as F2 H2 (x.trans f x2) (.dat (hv.mono x2.ff) (v2.move fun a ws _ ⟨c0, cf, cp, ch⟩ => ⟨(x.new0 f c0).1, cf, cp, ch⟩)) nd q2
theorem dn_o (h : DO X e to) (hr : DN X es u) (he : starEach (e :: es) X.env = (false, eval e X.env) :: starEach es X.env := by rfl) : DN X (e :: es) (dNO to u) := by
  refine PA.wk (pa_cons h hr he) fun σ H Q ⟨p, H0, F, ρ, Qd, f, r, q, k⟩ => ?_
  refine ⟨p, H0, F, ρ, _, f, r, q, fun ds v F' H' x hv hq => ?_⟩
  obtain ⟨a, ws, rfl, h0, n, hp, eh, rv⟩ := hv
  refine ⟨p, H0, F', ρ, _, x.fit f, r.ext x, hq, fun its vs as F2 H2 x2 v2 nd q2 => ?_⟩
  refine k _ _ (a :: as) F2 H2 (x.trans f x2) (.own ⟨h0, x2.fr a _ eh n, hp, x2.hh a _ hp eh⟩ (rv.mono x2.ff) (v2.move fun a ws _ ⟨c0, cf, cp, ch⟩ => ⟨(x.new0 f c0).1, cf, cp, ch⟩)) (List.nodup_cons.mpr ⟨fun z => ?_, nd⟩) q2
  have := (v2.fresh a z).1
  rw [eh] at this
  cases this
/-- y = [..], new lists among the items -/
def dTmpNew (i : Nat) (u : DNT) : DS := fun D ρ => u ρ fun its => its.length ≤ 16777216 ∧ D.nx (ρ.set i (.tmp its))
theorem NIs.length {k : Kw} {p : Option Addr} {H0 F H : Hp} {vs : List V} {its : List (Bool × PyData)} {as : List Addr} (h : NIs k p H0 F H vs its as) : vs.length = its.length := by
  induction h with
  | nil => rfl
  | dat _ _ ih => simp [ih]
  | own _ _ _ ih => simp [ih]
theorem ds_tmp (i : Nat) {y : Str} (hN : X.N.Nodup) (h : DN X es u) (hi : X.N[i]? = some y := by rfl) (hx : Loc X.env.scope y := by first | exact Or.inl rfl | exact Or.inr rfl)
    (hs : swapsWith (.List es p2) (some (.Name y p1)) pos.line X.env = pure false := by rfl) (hf : X.fn y = true ∨ X.env.scope.names.lookup y = some .local := by first | exact .inl rfl | exact .inr rfl) :
    DP X (.Assign [.Name y p1] (.List es p2) pos) (dTmpNew i u) := by
  refine PS.wk (ps_set hN hi hx (pe_lst h) hs hf) fun D σ H ⟨p, H0, F0, F, ρ, Dd, f, x, r, q, k⟩ => ?_
  refine ⟨p, H0, F, ρ, _, x.fit f, r, q, fun its vs as F' H' y hv nd hq => ⟨by rw [sl_eq, hv.length]; exact hq.1, fun a ha => ?_⟩⟩
  have fx := x.fit f
  have xy := x.trans f y
  have fxy := xy.fit f
  have j := Ext.junk fxy (o := .lst vs) ha
  have n0 := xy.new0 f ha
  have v2 := (hv.ext j).move (p' := p) (H0' := H0) fun a ws _ ⟨c0, cf, cp, ch⟩ => ⟨(x.new0 f c0).1, cf, cp, ch⟩
  refine k.nx _ F' _ _ y.ff (xy.trans f j) (((r.ext y).ext j).set i (some (.ref a)) (sl := .tmp its) ⟨a, vs, as, rfl, ⟨n0.1, fxy.none ha, n0.2, upd_same⟩, v2, List.nodup_cons.mpr ⟨fun z => ?_, nd⟩⟩ (fun ds z => by cases z)) hq.2
  obtain ⟨_, _, _, ws, e⟩ := hv.fresh a z
  rw [ha] at e
  cases e

/-! ### looking into such a list -/
def blurS : Sl → Sl
  | .own _ => .emp
  | .dic _ => .emp
  | .rdic _ => .emp
  | .mdic _ _ => .emp
  | .tmp _ => .emp
  | s => s
def dPeekT (i : Nat) (t : DT) : DT := fun ρ Q => match ρ[i]? with | some (.tmp its) => t ((ρ.map blurS).set i (.dat (.list (its.map (·.2))))) (fun d => atom d = true ∧ Q d) | _ => False
def cPeekT (i : Nat) (t : DTT) : DTT := fun ρ Q => match ρ[i]? with | some (.tmp its) => t ((ρ.map blurS).set i (.dat (.list (its.map (·.2))))) Q | _ => False
theorem Rep.blur {k : Kw} {p : Option Addr} {H0 F H : Hp} {σ : Sg} {ρ : Rho} (r : Rep k p H0 F H σ ρ) : Rep k p H0 F H σ (ρ.map blurS) := by
  refine ⟨by rw [List.length_map]; exact r.len, fun i sl e => ?_, fun i j ds es a e1 => ?_⟩
  · rw [List.getElem?_map, Option.map_eq_some_iff] at e
    obtain ⟨s, e1, rfl⟩ := e
    have h := r.all i s e1
    cases s <;> first | exact h | trivial
  · rw [List.getElem?_map, Option.map_eq_some_iff] at e1
    obtain ⟨s, e1, e2⟩ := e1
    cases s <;> cases e2
noncomputable def restAll (F H : Hp) (as : List Addr) : Hp := fun b => if b ∈ as then H b else F b
theorem restAll_same {F H : Hp} {as : List Addr} (h : ∀ a ∈ as, F a = none) : Same F (restAll F H as) := fun b u e => by
  unfold restAll
  rw [if_neg (fun z => by rw [h b z] at e; cases e)]
  exact e
theorem Fit.restAll {p : Option Addr} {F H : Hp} {as : List Addr} (f : Fit p F H) (h : ∀ a ∈ as, p ≠ some a) : Fit p (restAll F H as) H := by
  refine ⟨fun b u e => ?_, fun q hq => ⟨?_, (f.pot q hq).2⟩⟩
  · unfold DL.restAll at e
    split at e
    · exact e
    · exact f.sub _ _ e
  · unfold DL.restAll
    rw [if_neg (fun z => h q z hq)]
    exact (f.pot q hq).1
theorem Ext.unrestAll {p : Option Addr} {F F2 H F3 H' : Hp} (s : Same F F2) (x : Ext p F2 H F3 H') : Ext p F H F H' :=
  ⟨Same.refl _, fun b u e => x.fh _ _ (x.ff _ _ (s _ _ e)), x.hh, fun _ _ _ e => e, x.pt⟩
theorem NIs.rest {k : Kw} {p : Option Addr} {H0 F H : Hp} {vs : List V} {its : List (Bool × PyData)} {as : List Addr} (h : NIs k p H0 F H vs its as) {G : Hp} (s : Same F G) (hG : ∀ a ∈ as, G a = H a) : DVs k.K G vs (its.map (·.2)) := by
  induction h with
  | nil => exact .nil
  | dat h _ ih => exact .cons (h.mono s) (ih hG)
  | own h r _ ih => exact .cons (.lst (.of (by rw [hG _ (List.mem_cons_self ..)]; exact h.2.2.2)) (r.mono s)) (ih fun a ha => hG a (List.mem_cons_of_mem _ ha))
theorem Rep.peekT {k : Kw} {p : Option Addr} {H0 F H : Hp} {σ : Sg} {ρ : Rho} (f : Fit p F H) (r : Rep k p H0 F H σ ρ) {i : Nat} {its : List (Bool × PyData)} (e : ρ[i]? = some (.tmp its)) :
    ∃ G, Same F G ∧ Fit p G H ∧ Rep k p H0 G H σ ((ρ.map blurS).set i (.dat (.list (its.map (·.2))))) := by
  obtain ⟨t, vs, as, et, ⟨t0, tf, tp, th⟩, v2, nd⟩ := r.all i _ e
  have fr : ∀ a ∈ t :: as, F a = none ∧ p ≠ some a := fun a ha => by
    rcases List.mem_cons.mp ha with rfl | ha
    · exact ⟨tf, tp⟩
    · exact ⟨(v2.fresh a ha).2.1, (v2.fresh a ha).2.2.1⟩
  have s : Same F (restAll F H (t :: as)) := restAll_same fun a ha => (fr a ha).1
  have at_ : ∀ a ∈ t :: as, restAll F H (t :: as) a = H a := fun a ha => if_pos ha
  have rb := r.blur
  have rG : Rep k p H0 (restAll F H (t :: as)) H σ (ρ.map blurS) := by
    refine ⟨rb.len, fun j sl ej => ?_, rb.own⟩
    have h := rb.all j sl ej
    rw [List.getElem?_map, Option.map_eq_some_iff] at ej
    obtain ⟨z, _, rfl⟩ := ej
    cases z with
    | dat d => obtain ⟨y, e1, r1⟩ := h; exact ⟨y, e1, r1.mono s⟩
    | sett S =>
      obtain ⟨b, L, eb, bp, bh, br, bs⟩ := h
      exact ⟨b, L, eb, bp, bh, fun q hq => sqt_same s (br q hq), bs⟩
    | pot => exact h
    | fact φ => exact fun F2 e => h F2 (s.trans e)
    | _ => trivial
  refine ⟨_, s, f.restAll fun a ha => (fr a ha).2, ?_⟩
  have hv : DV k.K (restAll F H (t :: as)) (.ref t) (.list (its.map (·.2))) := .lst (.of (by rw [at_ t (List.mem_cons_self ..)]; exact th)) (v2.rest s fun a ha => at_ a (List.mem_cons_of_mem _ ha))
  have same : σ = σ.set i (some (.ref t)) := by
    have z := slv_of et
    apply List.ext_getElem?
    intro n
    by_cases hn : i = n
    · subst hn
      have hl := (List.getElem?_eq_some_iff.mp z).1
      rw [List.getElem?_set_self hl, z]
    · rw [List.getElem?_set_ne hn]
  rw [same]
  exact rG.set i (some (.ref t)) (sl := .dat (.list (its.map (·.2)))) ⟨_, rfl, hv⟩ (fun ds z => by cases z)
theorem de_peekT (i : Nat) (h : DE X e t) : DE X e (dPeekT i t) := by
  refine PE.wk h fun σ H Q ⟨p, H0, F, ρ, Qd, f, r, q, k⟩ => ?_
  unfold dPeekT at q
  split at q
  · rename_i its ei
    obtain ⟨G, s, fG, rG⟩ := r.peekT f ei
    exact ⟨p, H0, G, _, _, fG, rG, q, fun d v F' H' x hv hq => k d v F H' (x.unrestAll s) (hv.atom hq.1) hq.2⟩
  · exact q.elim
variable {tc : DTT}
theorem dc_peekT (i : Nat) (h : DC X e tc) : DC X e (cPeekT i tc) := by
  refine PT.wk h fun σ H Q ⟨p, H0, F, ρ, Qd, f, r, q, k⟩ => ?_
  unfold cPeekT at q
  split at q
  · rename_i its ei
    obtain ⟨G, s, fG, rG⟩ := r.peekT f ei
    exact ⟨p, H0, G, _, _, fG, rG, q, fun b F' H' x hq => k b F H' (x.unrestAll s) hq⟩
  · exact q.elim
end

/-! ### y[j].append(e), y forgotten -/
def nspoil (its : List (Bool × PyData)) (j : Nat) : Bool := match its[j]? with | some (true, .list ds) => decide (ds.length < 1000) | _ => false
section
variable {X : Cx} {pos pc pa pn ps : Pos} {e : Expr} {te : DT} {j : Int} {kj : Nat} {pj : Pos}
def dSpoil (i : Nat) (j : Int) (t : DT) : DS := fun D ρ => match ρ[i]? with
  | some (.tmp its) => (0 ≤ j ∧ nspoil its j.toNat = true) ∧ t ρ fun _ => D.nx ((ρ.map blurS).set i .emp)
  | _ => False
theorem NIs.get {k : Kw} {p : Option Addr} {H0 F H : Hp} {vs : List V} {its : List (Bool × PyData)} {as : List Addr} (h : NIs k p H0 F H vs its as) : ∀ {n : Nat} {ds : List PyData}, its[n]? = some (true, .list ds) → ∃ a ws, vs[n]? = some (.ref a) ∧ a ∈ as ∧ (H0 a = none ∧ F a = none ∧ p ≠ some a ∧ H a = some (.lst ws)) ∧ DVs k.K F ws ds := by
  induction h with
  | nil => exact fun e => by cases e
  | dat _ _ ih =>
    exact fun {n ds} e => by
      cases n with
      | zero => cases e
      | succ n => exact ih (n := n) (by simpa using e)
  | own h r _ ih =>
    exact fun {n ds} e => by
      cases n with
      | zero =>
        cases e
        exact ⟨_, _, rfl, List.mem_cons_self .., h, r⟩
      | succ n =>
        obtain ⟨a, ws, e1, e2, e3, e4⟩ := ih (n := n) (by simpa using e)
        exact ⟨a, ws, by simpa using e1, List.mem_cons_of_mem _ e2, e3, e4⟩
theorem ds_spoil (i : Nat) {y : Str} (he : DE X e te) (hi : X.N[i]? = some y := by rfl) (hv : Vis X.env.scope y := by first | exact Or.inl rfl | exact Or.inr (Or.inl rfl) | exact Or.inr (Or.inr rfl)) (hd : (y == ("__debug__" : Str)) = false := by decide) (hcd : (y == ("__classdict__" : Str)) = false := by decide)
    (hbase : attributeBase (.Subscript (.Name y pn) (.Constant (.int j) kj pj) ps) "append" X.env (eval (.Subscript (.Name y pn) (.Constant (.int j) kj pj) ps) X.env) = eval (.Subscript (.Name y pn) (.Constant (.int j) kj pj) ps) X.env := by rfl)
    (hfew : ((backTo pc (starEach (e :: []) X.env)).all (fun x => !x.1) && (backToKw pc (keywordEach [] X.env)).all (fun x => x.1.isSome)
      && decide ((e :: ([] : List Expr)).length + ([] : List Keyword).length + (if ([] : List Keyword).isEmpty then 0 else 1) < 30)) = true := by rfl)
    (hline : (pa.endLine == pc.line) = true := by rfl) (hs : starEach (e :: []) X.env = (false, eval e X.env) :: starEach [] X.env := by rfl) (hplain : (backTo pc (starEach [] X.env)).any (·.1) = false := by rfl)
    (hsw : swapsWith (.Call (.Attribute (.Subscript (.Name y pn) (.Constant (.int j) kj pj) ps) "append" pa) [e] [] pc) none pos.line X.env = pure false := by rfl) :
    DP X (.Expr (.Call (.Attribute (.Subscript (.Name y pn) (.Constant (.int j) kj pj) ps) "append" pa) [e] [] pc) pos) (dSpoil i j te) := by
  refine PS.wk (ps_expr (pe_bm PySem.F.plainAttrs_list PySem.F.slot_list_append PySem.F.type_list_append mt_append (pe_ix ix_list (pe_var hi hv hd hcd) pe_int (fun _ _ => rfl)) (pa_cons he pa_nil hs) hbase hfew hline hs hplain) hsw) fun D σ H ⟨p, H0, F0, F, ρ, Dd, f, x, r, q, k⟩ => ?_
  unfold dSpoil at q
  split at q
  · rename_i its ei
    obtain ⟨⟨j0, ns⟩, q⟩ := q
    obtain ⟨t, vs, as, et, ⟨t0, tf, tp, th⟩, v2, nd⟩ := r.all i _ ei
    unfold nspoil at ns
    split at ns
    · rename_i ds eds
      obtain ⟨a, ws, e1, ha, ⟨a0, af, ap, ah⟩, rv⟩ := v2.get eds
      have at_ : atI vs j = some (.ref a) := by
        have hl : j.toNat < vs.length := (List.getElem?_eq_some_iff.mp e1).1
        have e2 : ixN vs.length j = some j.toNat := by
          unfold ixN
          rw [if_pos j0, if_pos (by omega)]
        unfold atI
        rw [e2]
        exact e1
      have nat_ : t ≠ a := fun z => by
        rw [← z] at ha
        exact (List.nodup_cons.mp nd).1 ha
      refine ⟨.ref t, slv_of et, t, vs, j, .ref a, rfl, rfl, .of th, at_, ?_⟩
      refine ⟨.inl ⟨rfl, ws, .of ah⟩, p, H0, F, ρ, _, x.fit f, r, q, fun d v F' H' y hv' hq => ?_⟩
      have ah' := y.hh a _ ap ah
      have af' := y.fr a _ ah af
      refine ⟨a, ws, v, rfl, rfl, ah', by rw [sl_eq, rv.length]; simp only [decide_eq_true_eq] at ns; omega, ?_⟩
      have rb := ((r.ext y).blur).set i none (sl := .emp) trivial (fun ds z => by cases z)
      refine k.nx σ F' _ ((ρ.map blurS).set i .emp) y.ff ((x.trans f y).write a0 af' ap) ?_ hq
      have base := (r.ext y).blur
      refine ⟨by rw [List.length_set]; exact base.len, fun l sl el => ?_, fun l m ds es b e1 => ?_⟩
      · by_cases hl : i = l
        · subst hl
          have hl' : i < (ρ.map blurS).length := by
            have := (List.getElem?_eq_some_iff.mp el).1
            simpa using this
          rw [List.getElem?_set_self hl'] at el
          cases el
          trivial
        · rw [List.getElem?_set_ne hl] at el
          have h := base.all l sl el
          rw [List.getElem?_map, Option.map_eq_some_iff] at el
          obtain ⟨z, _, rfl⟩ := el
          cases z with
          | dat d => exact h
          | sett S =>
            obtain ⟨b, L, eb, bp, bh, br⟩ := h
            have nab : b ≠ a := fun z => by rw [z, ah'] at bh; cases bh
            exact ⟨b, L, eb, bp, by rw [upd_ne nab]; exact bh, br⟩
          | pot => exact h
          | _ => trivial
      · exfalso
        by_cases hl : i = l
        · subst hl
          have hl' : i < (ρ.map blurS).length := by
            have := (List.getElem?_eq_some_iff.mp e1).1
            simpa using this
          rw [List.getElem?_set_self hl'] at e1
          cases e1
        · rw [List.getElem?_set_ne hl, List.getElem?_map, Option.map_eq_some_iff] at e1
          obtain ⟨s, _, e2⟩ := e1
          cases s <;> cases e2
    · cases ns
  · exact q.elim
end
end DL
namespace DL
open PySem PySem.Spec PyProof.Rows L2
theorem Rm.u1 {k : Nat} {A : Around} (m : Rm k A) : A.units + 1 < cLine := by have := m.u; omega
theorem Rm.u2 {k : Nat} {A : Around} (m : Rm k A) : A.units + 2 < cLine := by have := m.u; omega
end DL


namespace DL
open PySem PySem.Spec PyProof.Rows L2
/-! ### a, b = x, y: a tuple is made, names that inner blocks see -/
section
variable {X : Cx} {pos px py pt : Pos} {a b : Expr} {kt k2 : Nat} {pt2 : Pos}
theorem ds_par2 (i j : Nat) {y z : Str} {t u : DZT} (hc : X.calm = true) (hN : X.N.Nodup) (ha : DZ X a t) (hb : DZ X b u) (hij : i ≠ j := by decide) (hi : X.N[i]? = some y := by rfl) (hj : X.N[j]? = some z := by rfl)
    (hy : Loc X.env.scope y := by first | exact Or.inl rfl | exact Or.inr rfl) (hz : Loc X.env.scope z := by first | exact Or.inl rfl | exact Or.inr rfl)
    (fy : X.fn y = true ∨ X.env.scope.names.lookup y = some .local := by first | exact .inl rfl | exact .inr rfl) (fz : X.fn z = true ∨ X.env.scope.names.lookup z = some .local := by first | exact .inl rfl | exact .inr rfl)
    (hs : swapsWithSole [.Tuple [.Name y px, .Name z py] kt pt] (.Tuple [a, b] k2 pt2) pos.line X.env = pure false := by rfl)
    (hw : swappedStores [.Tuple [.Name y px, .Name z py] kt pt] (.Tuple [a, b] k2 pt2) X.env = pure none := by rfl)
    (e1 : starEach [a, b] X.env = (false, eval a X.env) :: starEach [b] X.env := by rfl) (e2 : starEach [b] X.env = (false, eval b X.env) :: starEach [] X.env := by rfl) :
    DP X (.Assign [.Tuple [.Name y px, .Name z py] kt pt] (.Tuple [a, b] k2 pt2) pos) (fun D ρ => t ρ fun r1 => u ρ fun r2 => D.nx ((ρ.set i r1.sl).set j r2.sl)) := by
  refine PS.wk (ps_asg (pe_tup (pa_cons ha (pa_cons hb pa_nil e2) e1)) (pg_tup hc (pgs_cons (pg_name hN hi hy fy) (pgs_cons (pg_name hN hj hz fz) pgs_nil))) hs hw) fun D σ H ⟨p, H0, F0, F, ρ, Dd, f, x, r, q, k⟩ => ?_
  refine ⟨p, H0, F, ρ, _, x.fit f, r, q, fun r1 v1 F1 H1 y1 z1 q1 => ?_⟩
  have x1 := x.trans f y1
  refine ⟨p, H0, F1, ρ, _, x1.fit f, r.ext y1, q1, fun r2 v2 F2 H2 y2 z2 q2 => ?_⟩
  have x2 := x1.trans f y2
  refine ⟨by rw [sl_eq]; show 2 ≤ 16777216; decide, fun T hT => ?_⟩
  have fx := x2.fit f
  have j3 := Ext.junk fx (o := .tup [v1, v2]) hT
  refine ⟨T, [v1, v2], rfl, .of upd_same, rfl, v1, [v2], rfl, v2, [], rfl, rfl, ?_⟩
  refine k.nx _ F2 _ _ (y1.ff.trans y2.ff) (x2.trans f j3) ?_ q2
  have ra := (r.ext y1).putZ f x r.live i z1
  exact ((ra.ext y2).putZ f x1 ra.live j z2).ext j3
end
/-! ### comprehensions at the data level -/
theorem lcD_fm {α : Type} {i : Nat} {tt : DTT} {te : DT} {ρ : Rho} {Q : List PyData → Prop} (enc : α → PyData) (c : α → Bool) (f : α → PyData) : ∀ (xs : List α) (acc : List PyData),
    (∀ x ∈ xs, ∀ Q : Bool → Prop, Q (c x) → tt (ρ.set i (.dat (enc x))) Q) → (∀ x ∈ xs, c x = true → ∀ Q : PyData → Prop, Q (f x) → te (ρ.set i (.dat (enc x))) Q) →
    acc.length + xs.length ≤ 16777216 → Q (acc ++ (xs.filter c).map f) → lcD (gSet i) tt te ρ (xs.map enc) acc Q
  | [], acc, _, _, _, h => by simpa [lcD] using h
  | x :: xs, acc, ht, he, hl, h => by
    simp only [List.map_cons, lcD, gSet]
    refine ht x (List.mem_cons_self ..) _ ?_
    simp only [List.length_cons] at hl
    cases e : c x with
    | true =>
      refine he x (List.mem_cons_self ..) e _ ⟨by omega, ?_⟩
      refine lcD_fm enc c f xs _ (fun y hy => ht y (List.mem_cons_of_mem _ hy)) (fun y hy => he y (List.mem_cons_of_mem _ hy)) (by simp; omega) ?_
      simpa [List.filter_cons, e] using h
    | false =>
      refine lcD_fm enc c f xs _ (fun y hy => ht y (List.mem_cons_of_mem _ hy)) (fun y hy => he y (List.mem_cons_of_mem _ hy)) (by omega) ?_
      simpa [List.filter_cons, e] using h
/-- without a test -/
theorem lcD_m {α : Type} {i : Nat} {te : DT} {ρ : Rho} {Q : List PyData → Prop} (enc : α → PyData) (f : α → PyData) (xs : List α)
    (he : ∀ x ∈ xs, ∀ Q : PyData → Prop, Q (f x) → te (ρ.set i (.dat (enc x))) Q) (hl : xs.length ≤ 16777216) (h : Q (xs.map f)) : lcD (gSet i) dYes te ρ (xs.map enc) [] Q :=
  lcD_fm enc (fun _ => true) f xs [] (fun _ _ _ h => h) (fun x hx _ => he x hx) (by simpa using hl) (by rw [List.nil_append, show (xs.filter fun _ => true) = xs by simp]; exact h)
/-- a loop over encoded items: the state by what was taken -/
theorem loopD_pre {α : Type} {g : DGT} {tb : DS} {D : DEnds} (enc : α → PyData) (I : List α → Rho → Prop) (xs : List α) (ρ : Rho) (h0 : I [] ρ)
    (ht : ∀ pre x post ρ (N : Rho → Prop), xs = pre ++ x :: post → I pre ρ → (∀ ρ', I (pre ++ [x]) ρ' → N ρ') → g (enc x) ρ fun ρ1 => tb { nx := N, rt := D.rt, bk := D.nx, ct := N } ρ1) (hD : ∀ ρ, I xs ρ → D.nx ρ) : loopD g tb D (xs.map enc) ρ := by
  have go : ∀ (post pre : List α) (ρ : Rho), xs = pre ++ post → I pre ρ → loopD g tb D (post.map enc) ρ := by
    intro post
    induction post with
    | nil =>
      intro pre ρ e h
      rw [List.append_nil] at e
      subst e
      exact hD ρ h
    | cons x post ih =>
      intro pre ρ e h
      simp only [List.map_cons, loopD]
      exact ht pre x post ρ _ e h fun ρ' h' => ih (pre ++ [x]) ρ' (by rw [e]; simp) h'
  exact go xs [] ρ rfl h0
end DL


/-! Exceptions: a try with any clauses. -/
namespace DL
open PySem PySem.Spec PyProof.Rows L2

/-- the test of an except clause: which classes it takes -/
abbrev TM := Value → Option Bool
/-- the name of a clause, its suite -/
abbrev HdT := Option Nat × (Addr → Value → Option Addr → TS)
def hdRun (oi : Option Nat) (t : TS) (a : Addr) (D : Ends) (σ : Sg) (H : Hp) : Prop := match oi with
  | none => t D σ H
  | some i => t { nx := fun σ' H' => D.nx (σ'.set i none) H', rt := D.rt, bk := fun σ' H' => D.bk (σ'.set i none) H', ct := fun σ' H' => D.ct (σ'.set i none) H' } (σ.set i (some (.ref a))) H
def wG (Wout : WX) (D : Ends) : List (TM × HdT) → WX
  | [] => Wout
  | (m, oi, ts) :: r => fun cls d σ H => ∃ b, m cls = some b ∧ (b = true → ∀ a, H a = none → hdRun oi (ts a cls d) a D σ H) ∧ (b = false → wG Wout D r cls d σ H)
structure TestOk (X : Cx) (t : Expr) (m : TM) : Prop where
  run : ∀ {a : Addr} {oe : Obj} {cls : Value} {b : Bool} {pn : List (Addr × Obj)} {σ : Sg} {H : Hp} {s : Shared} {Q : Bool → Shared → Prop} {E : Value → Shared → Prop},
  Inv (X.suite a ((a, oe) :: pn)) [] σ H s → oe.cls = cls → m cls = some b → (∀ h', (∀ q o, s.heap.get? q = some o → h'.get? q = some o) → Q b { s with heap := h' }) →
  wpAny (model X.prog X.w) (X.A.mark (some (.ref a))) (eval t X.env) (fun c s₁ => wpAny (model X.prog X.w) (X.A.mark (some (.ref a))) (excMatches (.ref a) c) Q E s₁) E s
inductive HdG (X : Cx) : List ExceptHandler → List (TM × HdT) → Prop
  | nil : HdG X [] []
  | one {t : Expr} {m : TM} {ts : Addr → Value → Option Addr → TS} {b₀ : Stmt} {suite : List Stmt} {pos' : Pos} {hds : List ExceptHandler} {l : List (TM × HdT)} (hc : TestOk X t m)
      (hsu : ∀ (a : Addr) (oe : Obj) (cls : Value) (d : Option Addr) (pn : List (Addr × Obj)), Zc cls d oe → (∃ vs, oe.data = .fields vs) → PSs (X.suite a ((a, oe) :: pn)) (b₀ :: suite) (ts a cls d)) (r : HdG X hds l) :
      HdG X (.ExceptHandler (some t) none (b₀ :: suite) pos' :: hds) ((m, none, ts) :: l)
  | as {t : Expr} {m : TM} {ts : Addr → Value → Option Addr → TS} {b₀ : Stmt} {suite : List Stmt} {pos' : Pos} {hds : List ExceptHandler} {l : List (TM × HdT)} {n : Str} {i : Nat} (hi : X.N[i]? = some n) (hln : X.env.kindOf n = some .local) (hc : TestOk X t m)
      (hsu : ∀ (a : Addr) (oe : Obj) (cls : Value) (d : Option Addr) (pn : List (Addr × Obj)), Zc cls d oe → (∃ vs, oe.data = .fields vs) → PSs (X.suite a ((a, oe) :: pn)) (b₀ :: suite) (ts a cls d)) (r : HdG X hds l) :
      HdG X (.ExceptHandler (some t) (some n) (b₀ :: suite) pos' :: hds) ((m, some i, ts) :: l)
theorem test_name {X : Cx} {x : Str} {c : Value} {np : Pos} (K : PySem.W.Frag) (hc : Names X x c) (hK : X.K = K := by rfl) : TestOk X (.Name x np) (fun cls => PySem.W.exmOne K cls c) := by
  subst hK
  refine ⟨?_⟩
  intro a oe cls b pn σ H s Q E S hz hb q
  have he : s.heap.get? a = some oe := (S.pin (a, oe) (by simp)).1
  have LT : PySem.W.Looks (model X.prog X.w) s.heap (typeOf (.ref a)) cls := fun A Q E s k q => wpAny_typeOf_ref (k _ _ he) (by rw [hz]; exact q)
  have LM := PySem.W.exm_one (M := model X.prog X.w) S.kIn LT hb
  have fin : wpAny (model X.prog X.w) (X.A.mark (some (.ref a))) (excMatches (.ref a) c) Q E s := LM.here (q s.heap fun _ _ z => z)
  obtain ⟨hg, hdbg, hm | ⟨hm, hv, hnn⟩⟩ := hc
  · exact ld_glob (X := X.suite a ((a, oe) :: pn)) S hg hm fin hdbg
  · exact ld_blt (X := X.suite a ((a, oe) :: pn)) S hg hm hv fin hnn hdbg
theorem test_tup3 {X : Cx} {x1 x2 x3 : Str} {c1 c2 c3 : Value} {p1 p2 p3 tpos : Pos} {kk : Nat} (K : PySem.W.Frag) (h1 : Gl X x1 ∧ X.mg x1 = some c1 ∧ (x1 == ("__debug__" : Str)) = false) (h2 : Gl X x2 ∧ X.mg x2 = some c2 ∧ (x2 == ("__debug__" : Str)) = false) (h3 : Gl X x3 ∧ X.mg x3 = some c3 ∧ (x3 == ("__debug__" : Str)) = false) (hK : X.K = K := by rfl) :
    TestOk X (.Tuple [.Name x1 p1, .Name x2 p2, .Name x3 p3] kk tpos) (fun cls => PySem.W.exmAny K cls [c1, c2, c3]) := by
  subst hK
  refine ⟨?_⟩
  intro a oe cls b pn σ H s Q E S hz hb q
  have he : s.heap.get? a = some oe := (S.pin (a, oe) (by simp)).1
  have LT : PySem.W.Looks (model X.prog X.w) s.heap (typeOf (.ref a)) cls := fun A Q E s k q => wpAny_typeOf_ref (k _ _ he) (by rw [hz]; exact q)
  refine wpAny_Tuple ?_
  refine wpAny_items_cons (ld_glob (X := X.suite a ((a, oe) :: pn)) S h1.1 h1.2.1 ?_ h1.2.2)
  refine wpAny_items_cons (ld_glob (X := X.suite a ((a, oe) :: pn)) S h2.1 h2.2.1 ?_ h2.2.2)
  refine wpAny_items_cons (ld_glob (X := X.suite a ((a, oe) :: pn)) S h3.1 h3.2.1 ?_ h3.2.2)
  refine wpAny_items_nil ⟨by size_fits, ?_⟩
  have kp : ∀ q o, s.heap.get? q = some o → (s.heap.push { cls := .type "tuple", data := .seq [c1, c2, c3].toArray }).get? q = some o := fun _ _ z => Heap.get?_push_of_some _ z
  exact (PySem.W.exm_tup3 (M := model X.prog X.w) (S.kIn.keeps kp) (LT.keeps kp) (Heap.get?_push_size s.heap rfl) hb).here (q _ kp)
theorem flying_more {B h h' : Heap} {l : List Env} {a : Addr} {Z : Obj → Prop} (f : HandSPX.FlyingZ B l a Z h) (k : ∀ q o, h.get? q = some o → h'.get? q = some o) : HandSPX.FlyingZ B l a Z h' := by
  obtain ⟨h1, h2, h3, oe, vs, T, oT, ts, he, hz, hd, hv, hn, hne, hT, hdT, ht⟩ := f
  exact ⟨fun b o e => k b o (h1 b o e), h2, h3.of_keeps fun b o e _ => ⟨o, k b o e, rfl⟩, oe, vs, T, oT, ts, k _ _ he, hz, hd, hv, hn, hne, k _ _ hT, hdT, ht⟩
section
variable {X : Cx} {body : List Stmt} {h₀ : ExceptHandler} {hds : List ExceptHandler} {l : List (TM × HdT)} {pos : Pos} {tb : WX → TS} {Wout : WX}
theorem ps_tryG (hs : X.stack = X.env :: X.outer) (hf : X.env.frame = some X.env.locals) (hN : X.N.Nodup) (tk : Takes X Wout)
    (hb : ∀ (W : WX) (pn : List (Addr × Obj)) (xe : Value → Shared → Prop), Takes (X.tr pn xe) W → PassesOwn (model X.prog X.w) X.A X.env xe → PSs (X.tr pn xe) body (tb W))
    (hh : HdG X (h₀ :: hds) l) : PS X (.Try body (h₀ :: hds) [] [] pos) (fun D σ H => tb (wG Wout D l) D σ H) := by
  refine ⟨fun pins s σ H D I h => ?_⟩
  have ok := I.ok
  have hfr : X.A.frames = some (X.env :: X.outer) := by rw [ok.frames, hs]
  refine wpAny_Try_except ?_
  refine wpAny_mono ((hb (wG Wout D l) (X.pn ++ pins) (fun e s₁ => wpAny (model X.prog X.w) X.A (noteFrame e X.env) (fun _ s₂ => wpAny (model X.prog X.w) X.A (setFlight e none) (fun _ s₃ =>
    wpAny (model X.prog X.w) X.A (handleBy e X.env (h₀ :: hds)) (SP X pins D) X.xe s₃) X.xe s₂) X.xe s₁) (fun u s' xx => ?_) PassesOwn.looking).run [] s σ H D (I.toTry _) h) (fun f s1 hsp => ?_) (fun e s1 he => he)
  · obtain ⟨a, B, sI, pins', σ', H', cls, d, rfl, J', nb, up, sky, na, os, ag, w⟩ := xx
    have J : Inv X pins σ' H' sI := J'.ofTry ok
    have sky' : Sky B (X.env :: X.outer) a (Zc cls d) X.env.locals s'.heap := by rw [← hs]; exact sky
    show wpAny (model X.prog X.w) X.A (noteFrame (.ref a) X.env) _ _ _
    refine Sky.land Zc.steady hfr hf sky' fun h3 fl3 up3 => ?_
    have notFr : ∀ {h : Heap} {o : Obj} {vs : Array Value}, h.FunFrames B (X.env :: X.outer) → h.get? a = some o → o.data = .fields vs → a ∉ frs (X.env :: X.outer) := fun {h o vs} ff e dd hm => by
      obtain ⟨_, o', e', hnf⟩ := ff.mem hm
      rw [e] at e'; cases e'
      exact hnf _ dd
    have go : ∀ {hds' : List ExceptHandler} {l' : List (TM × HdT)}, HdG X hds' l' → wG Wout D l' cls d σ' H' → ∀ h3 : Heap, HandSPX.FlyingZ B (X.env :: X.outer) a (Zc cls d) h3 → s'.heap.UpToSlots h3 →
        wpAny (model X.prog X.w) X.A (handleBy (.ref a) X.env hds') (SP X pins D) X.xe { s' with heap := h3 } := by
      intro hds' l' hk
      have loc : ∀ h3 : Heap, HandSPX.FlyingZ B (X.env :: X.outer) a (Zc cls d) h3 → s'.heap.UpToSlots h3 → ∃ oe : Obj, Zc cls d oe ∧ (∃ vs, oe.data = .fields vs) ∧ Inv (X.suite a ((a, oe) :: (X.pn ++ pins))) [] σ' H' { s' with heap := h3 } := by
        intro h3 fl3 up3
        have J3 : Inv X pins σ' H' { s' with heap := h3 } := J.landed nb fl3.1 (up.trans up3) os ag
        obtain ⟨oe3, vs3, he3, hz3, hd3⟩ := fl3.there
        have nfr := notFr fl3.2.2.1 he3 hd3
        have nL : a ≠ X.env.locals := fun z => nfr (List.mem_filterMap.mpr ⟨X.env, List.mem_cons_self, by rw [hf, z]⟩)
        have nF : a ∉ X.fs := fun hm => by
          obtain ⟨e, he, q⟩ := List.mem_filterMap.mp hm
          exact nfr (List.mem_filterMap.mpr ⟨e, List.mem_cons_of_mem _ he, q⟩)
        exact ⟨oe3, hz3, ⟨vs3, hd3⟩, J3.suite he3 hd3 na nL nF⟩
      induction hk with
      | nil =>
        intro w h3 fl3 up3
        refine wpAny_handleBy_nil ?_
        obtain ⟨k1, k2, k3, oe, vs, T, oT, ts', he, hz, hd, h1, hr⟩ := id fl3
        unfold PySem.passOn
        refine wpAny_bind (wpAny_field he hd h1 ?_)
        rw [if_neg (show ¬ ((Value.ref T == Value.none) = true) from by simp)]
        have fin : wpAny (model X.prog X.w) X.A (setFlight (.ref a) X.env.frame) (fun _ s4 => wpAny (model X.prog X.w) X.A (throw (.ref a) : Sem Flow) (SP X pins D) X.xe s4) X.xe { s' with heap := h3 } := by
          rw [hf]
          refine HandSPX.setFlight_upZ fl3 fun h4 hh4 up4 => wpAny_throw (tk _ _ ?_)
          exact ⟨a, B, sI, pins, σ', H', cls, d, rfl, J, nb, (up.trans up3).trans up4, .inr (.inr (by rw [hs]; exact hh4)), na, os, ag, w⟩
        first
          | exact wpAny_bind (wpAny_pure (wpAny_bind fin))
          | exact wpAny_bind fin
      | @one t m ts b₀ suite pos' hds2 l2 hc hsu r ih =>
        intro w h3 fl3 up3
        obtain ⟨b, hb1, hyes, hno⟩ := w
        obtain ⟨oe3, hz3, _, S3⟩ := loc h3 fl3 up3
        refine wpAny_handleBy_cons (codeAny_handlers_test (hc.run S3 hz3.1 hb1 fun h3' k3 => ?_)) (by intro q; cases q)
        have fl3' := flying_more fl3 k3
        have up3' : s'.heap.UpToSlots h3' := up3.trans (Heap.UpToSlots.of_keeps k3)
        cases b with
        | true =>
          refine codeAny_handlers_suite ?_
          refine HandSPX.lands_againZ fl3' fun h4 fl4 up4 => ?_
          obtain ⟨oe4, hz4, hd4, S4⟩ := loc h4 fl4 (up3'.trans up4)
          refine wpAny_mono ((hsu a oe4 cls d (X.pn ++ pins) hz4 hd4).run [] _ _ H' _ S4 (hyes rfl a na)) (fun f s6 hsp => ?_) (fun _ _ z => False.elim z)
          cases f with
          | next =>
            obtain ⟨σ6, H6, S6, q6⟩ := hsp
            exact ⟨_, _, S6.unsuite ok, q6⟩
          | brk =>
            obtain ⟨σ6, H6, S6, q6⟩ := hsp
            exact ⟨_, _, S6.unsuite ok, q6⟩
          | cont =>
            obtain ⟨σ6, H6, S6, q6⟩ := hsp
            exact ⟨_, _, S6.unsuite ok, q6⟩
          | ret u =>
            obtain ⟨v6, σ6, H6, S6, r6, q6⟩ := hsp
            exact ⟨_, _, _, S6.unsuite ok, r6, q6⟩
        | false =>
          show wpAny _ X.A (handleBy (.ref a) X.env hds2) _ _ _
          exact ih (hno rfl) h3' fl3' up3'
      | @as t m ts b₀ suite pos' hds2 l2 n i hi hln hc hsu r ih =>
        intro w h3 fl3 up3
        obtain ⟨b, hb1, hyes, hno⟩ := w
        obtain ⟨oe3, hz3, _, S3⟩ := loc h3 fl3 up3
        refine wpAny_handleBy_cons (codeAny_handlers_test (hc.run S3 hz3.1 hb1 fun h3' k3 => ?_)) (by intro q; cases q)
        have fl3' := flying_more fl3 k3
        have up3' : s'.heap.UpToSlots h3' := up3.trans (Heap.UpToSlots.of_keeps k3)
        cases b with
        | true =>
          refine codeAny_handlers_suite_as ?_
          refine HandSPX.lands_againZ fl3' fun h4 fl4 up4 => ?_
          obtain ⟨oe4, hz4, hd4, S4⟩ := loc h4 fl4 (up3'.trans up4)
          refine store_ok (X := X.suite a ((a, oe4) :: (X.pn ++ pins))) (v := .ref a) S4 hN hi (.inl hln) rfl (fun s5 S5 => ?_) (.inr hln)
          refine wpAny_mono ((hsu a oe4 cls d (X.pn ++ pins) hz4 hd4).run [] s5 _ H' _ S5 (hyes rfl a na)) (fun f s6 hsp => ?_) (fun _ _ z => False.elim z)
          have end_ : ∀ {σ6 : Sg} {H6 : Hp} {Q : Shared → Prop}, Inv (X.suite a ((a, oe4) :: (X.pn ++ pins))) [] σ6 H6 s6 → (∀ s7, Inv X pins (σ6.set i none) H6 s7 → Q s7) →
              wpAny (model X.prog X.w) X.A (do bindName X.env n .none; unbindBehindTheSuite X.env n pos') (fun _ s7 => Q s7) X.xe s6 := fun {σ6 H6 Q} S6 hq => gone_ok (S6.unsuite ok) hN hi hln hq
          cases f with
          | next =>
            obtain ⟨σ6, H6, S6, q6⟩ := hsp
            exact end_ S6 fun s7 J7 => ⟨_, _, J7, q6⟩
          | brk =>
            obtain ⟨σ6, H6, S6, q6⟩ := hsp
            exact end_ S6 fun s7 J7 => ⟨_, _, J7, q6⟩
          | cont =>
            obtain ⟨σ6, H6, S6, q6⟩ := hsp
            exact end_ S6 fun s7 J7 => ⟨_, _, J7, q6⟩
          | ret u =>
            obtain ⟨v6, σ6, H6, S6, r6, q6⟩ := hsp
            exact end_ S6 fun s7 J7 => ⟨_, _, _, J7, r6, q6⟩
        | false =>
          show wpAny _ X.A (handleBy (.ref a) X.env hds2) _ _ _
          exact ih (hno rfl) h3' fl3' up3'
    exact go hh w h3 fl3 up3
  · cases f with
    | next =>
      obtain ⟨σ', H', J', q⟩ := hsp
      exact wpAny_execs_nil ⟨σ', H', J'.ofTry ok, q⟩
    | brk =>
      obtain ⟨σ', H', J', q⟩ := hsp
      exact ⟨σ', H', J'.ofTry ok, q⟩
    | cont =>
      obtain ⟨σ', H', J', q⟩ := hsp
      exact ⟨σ', H', J'.ofTry ok, q⟩
    | ret u =>
      obtain ⟨v, σ', H', J', r, q⟩ := hsp
      exact ⟨v, σ', H', J'.ofTry ok, r, q⟩
end
end DL


/-! Exceptions over data. -/
namespace DL
open PySem PySem.Spec PyProof.Rows L2

/-- what an exception says: its class's name, its fields -/
abbrev Xn := Str × List (Str × PyData)
def XnOk (k : Kw) (mg : Str → Option Value) (p : Option Addr) (H0 F H : Hp) (cls : Value) (d : Option Addr) (z : Xn) : Prop :=
  mg z.1 = some cls ∧ ((z.2 = [] ∧ d = none) ∨ ∃ dd vs, d = some dd ∧ (H0 dd = none ∧ F dd = none ∧ H dd = some (.xd ((z.2.map (·.1)).zip vs))) ∧ DVs k.K F vs (z.2.map (·.2)))
abbrev DFX := List Arg → (Res → Prop) → (Xn → Prop) → Prop
def spDX (k : Kw) (mg : Str → Option Value) (df : DFX) : Sp := fun vs H Q E => ∃ p F as, ∃ (Qd : Res → Prop) (Ed : Xn → Prop), Fit p F H ∧ ArgsOk k p F vs as ∧ df as Qd Ed ∧ (∀ r v F' H', Ext p F H F' H' → ResOk k p H F' H' v r → Qd r → Q v H') ∧
  ∀ z cls d F' H', Ext p F H F' H' → XnOk k mg p H F' H' cls d z → Ed z → E cls d H'
theorem XnOk.back {k : Kw} {mg : Str → Option Value} {p : Option Addr} {H0 F0 F H F' H' : Hp} {cls : Value} {d : Option Addr} {z : Xn} (f : Fit p F0 H0) (x : Ext p F0 H0 F H) (h : XnOk k mg p H F' H' cls d z) : XnOk k mg p H0 F' H' cls d z := by
  refine ⟨h.1, h.2.imp id fun ⟨dd, vs, e, ⟨n, nf, hd⟩, r⟩ => ⟨dd, vs, e, ⟨(x.new0 f n).1, nf, hd⟩, r⟩⟩
/-- a def of the program that may raise -/
def GoodX (P : Program) (w : World) (K : PySem.W.Frag) (mg : Str → Option Value) (base : Heap) (x : String) (st : Stmt) (k : Nat) (ps : List Str) (df : DFX) : Prop :=
  ∃ a fd, mg x = some (.ref a) ∧ Fun K (Str.ofString x) (Str.ofString x) st a fd ∧ Binds K fd ps [] ∧ FnG P w K mg base (L2.CX P w) k a fd ps (spDX ⟨K, P, w⟩ mg df)
abbrev WDT := Xn → Rho → Prop
abbrev DSX := WDT → DS
abbrev DTX := WDT → DT
def ContX (k : Kw) (mg : Str → Option Value) (p : Option Addr) (H0 F0 F : Hp) (WD : WDT) (W : WX) : Prop :=
  ∀ σ' F' H' ρ' z cls d, Same F F' → Ext p F0 H0 F' H' → Rep k p H0 F' H' σ' ρ' → XnOk k mg p H0 F' H' cls d z → WD z ρ' → W cls d σ' H'
def tDSX (k : Kw) (mg : Str → Option Value) (t : DSX) (W : WX) : TS := fun D σ H => ∃ p H0 F0 F ρ, ∃ (Dd : DEnds) (WD : WDT), Fit p F0 H0 ∧ Ext p F0 H0 F H ∧ Rep k p H0 F H σ ρ ∧ t WD Dd ρ ∧ Conts k p H0 F0 F Dd D ∧ ContX k mg p H0 F0 F WD W
def tDX (k : Kw) (mg : Str → Option Value) (t : DTX) (W : WX) : TE := fun σ H Q => ∃ p H0 F ρ, ∃ (Qd : PyData → Prop) (WD : WDT), Fit p F H ∧ Rep k p H0 F H σ ρ ∧ t WD ρ Qd ∧ (∀ d v F' H', Ext p F H F' H' → DV k.K F' v d → Qd d → Q v H') ∧
  ∀ z cls d F' H', Ext p F H F' H' → XnOk k mg p H F' H' cls d z → WD z ρ → W cls d σ H'
abbrev DPX (X : Cx) (W : WX) (st : Stmt) (t : DSX) : Prop := PS X st (tDSX (kw X) X.mg t W)
abbrev DPXs (X : Cx) (W : WX) (sts : List Stmt) (t : DSX) : Prop := PSs X sts (tDSX (kw X) X.mg t W)
abbrev DEX (X : Cx) (W : WX) (e : Expr) (t : DTX) : Prop := PE X e (tDX (kw X) X.mg t W)

section
variable {P : Program} {w : World} {K : PySem.W.Frag} {mg : Str → Option Value} {base : Heap} {x : String} {st : Stmt} {k : Nat} {ps N : List Str} {df : DFX} {t : DSX}
theorem goodx_mk (h : At K mg x st) (S : FnScope N ps (defScope st))
    (hbd : ∀ (kV doc pm : Value) (an : Option Addr) (cdv ct : Value) (us : List Value), us.length = ps.length → bindArgs (PySem.W.fnOf x x (defArgs st) (defBody st) (defScope st) .none kV doc pm an cdv ct) ⟨us, []⟩ = pure (ps.zip us))
    (hl : ∀ as Q E, df as Q E → as.length = ps.length)
    (hb : ∀ (f : Addr) (cdv : Value) (A : Around) (outer : List Env) (s : Shared) (H : Hp) (E : XK), Rm k (A.deeper (envOfC x (defScope st) s.heap.objs.size f cdv)) → DPXs (cxOf (L2.CX P w) P w K mg base N x (defScope st) f cdv A outer s H E) (fun cls d _ H => E cls d H) (defBody st) t)
    (run : ∀ as Q Ed, df as Q Ed → t (fun z _ => Ed z) { nx := fun _ => Q (.dat .none), rt := Q } (startD N.length as)) : GoodX P w K mg base x st (k + 1) ps df := by
  obtain ⟨a, fd, hm, F⟩ := h
  refine ⟨a, fd, hm, F, F.binds hbd, fn_body F S (fun vs H Q E ⟨p, Fr, as, Qd, Ed, _, ha, hd, _⟩ => by rw [ha.length]; exact hl as Qd Ed hd) fun cdv A outer s H vs Q E hr ⟨p, Fr, as, Qd, Ed, f, ha, hd, c, ce⟩ => ?_⟩
  refine ⟨_, hb a cdv A outer s H E hr, p, H, Fr, Fr, startD N.length as, { nx := fun _ => Qd (.dat .none), rt := Qd }, fun z _ => Ed z, f, Ext.refl f.sub, rep_start ha, run as Qd Ed hd, ?_, fun σ' F' H' ρ' z cls d _ x _ q e => ce z cls d F' H' x q e⟩
  exact ⟨fun σ' F' H' ρ' _ x _ q => c (.dat .none) .non F' H' x .non q, fun _ _ _ _ _ _ _ q => q.elim, fun _ _ _ _ _ _ _ q => q.elim, fun r v F' H' x hr q => c r v F' H' x hr q⟩
/-- .. where it raises nothing -/
theorem GoodX.good (G : GoodX P w K mg base x st k ps df) : Good P w K mg base x st k ps (fun as Q => df as Q fun _ => False) := by
  obtain ⟨a, fd, hm, F, b, G⟩ := G
  have up : ∀ vs H Q E, spD ⟨K, P, w⟩ (fun as Q => df as Q fun _ => False) vs H Q E → spDX ⟨K, P, w⟩ mg df vs H Q E0 := fun vs H Q E ⟨p, Fr, as, Qd, f, ha, hd, c⟩ => ⟨p, Fr, as, Qd, fun _ => False, f, ha, hd, c, fun _ _ _ _ _ _ _ z => z.elim⟩
  refine ⟨a, fd, hm, F, b, ⟨fun vs H Q E h => G.len vs H Q E0 (up vs H Q E h), fun A outer s H args us vs Q E hr e0 hb r h => ?_⟩⟩
  refine codeAny_mono (G.run A outer s H args us vs Q E0 hr e0 hb r (up vs H Q E h)) fun r s' hq => ?_
  cases r with
  | error e =>
    obtain ⟨_, _, _, _, _, _, _, _, _, _, _, _, z⟩ := hq
    exact z.elim
  | ok fl => cases fl <;> exact hq
end

section
variable {X : Cx} {W : WX} {st : Stmt} {rest a b : List Stmt} {e c : Expr} {pos : Pos} {s u : DSX} {te : DTX} {tc : DTT}
theorem dpx {t : DS} (h : DP X st t) : DPX X W st (fun _ => t) := PS.wk h fun D σ H ⟨p, H0, F0, F, ρ, Dd, WD, f, x, r, q, k, _⟩ => ⟨p, H0, F0, F, ρ, Dd, f, x, r, q, k⟩
theorem dpxs_nil : DPXs X W [] (fun _ => dNext) := PSs.wk pss_nil fun D σ H ⟨p, H0, F0, F, ρ, Dd, WD, f, x, r, q, k, _⟩ => k.nx σ F H ρ (Same.refl _) x r q
theorem dpxs_one (h : DPX X W st s) : DPXs X W [st] s := pss_one h
theorem dpxs_cons (h : DPX X W st s) (hr : DPXs X W rest u) : DPXs X W (st :: rest) (fun WD => dSeq (s WD) (u WD)) := by
  refine PSs.wk (pss_cons h hr) fun D σ H ⟨p, H0, F0, F, ρ, Dd, WD, f, x, r, q, k, kx⟩ => ?_
  refine ⟨p, H0, F0, F, ρ, { Dd with nx := u WD Dd }, WD, f, x, r, q, ?_, kx⟩
  exact ⟨fun σ' F' H' ρ' s x' r' q' => ⟨p, H0, F0, F', ρ', Dd, WD, f, x', r', q', k.mono s, fun σ2 F2 H2 ρ2 z cls d s2 => kx σ2 F2 H2 ρ2 z cls d (s.trans s2)⟩, k.bk, k.ct, k.rt⟩
theorem dpx_if (hc : DC X c tc) (ha : DPXs X W a s) (hb : DPXs X W b u) : DPX X W (.If c a b pos) (fun WD => dIfS tc (s WD) (u WD)) := by
  refine PS.wk (ps_if hc ha hb) fun D σ H ⟨p, H0, F0, F, ρ, Dd, WD, f, x, r, q, k, kx⟩ => ?_
  refine ⟨p, H0, F, ρ, _, x.fit f, r, q, fun b F' H' y hq => ?_⟩
  have kx' : ContX (kw X) X.mg p H0 F0 F' WD W := fun σ2 F2 H2 ρ2 z cls d s2 => kx σ2 F2 H2 ρ2 z cls d (y.ff.trans s2)
  cases b with
  | true => exact ⟨p, H0, F0, F', ρ, Dd, WD, f, x.trans f y, r.ext y, hq, k.mono y.ff, kx'⟩
  | false => exact ⟨p, H0, F0, F', ρ, Dd, WD, f, x.trans f y, r.ext y, hq, k.mono y.ff, kx'⟩
theorem contx_e {k : Kw} {mg : Str → Option Value} {p : Option Addr} {H0 F0 F H : Hp} {σ : Sg} {ρ : Rho} {WD : WDT} (f : Fit p F0 H0) (x : Ext p F0 H0 F H) (r : Rep k p H0 F H σ ρ) (kx : ContX k mg p H0 F0 F WD W) :
    ∀ z cls d F' H', Ext p F H F' H' → XnOk k mg p H F' H' cls d z → WD z ρ → W cls d σ H' :=
  fun z cls d F' H' y hz hw => kx σ F' H' ρ z cls d y.ff (x.trans f y) (r.ext y) (hz.back f x) hw
theorem dpx_expr (he : DEX X W e te) (hs : swapsWith e none pos.line X.env = pure false := by rfl) : DPX X W (.Expr e pos) (fun WD D ρ => te WD ρ fun _ => D.nx ρ) := by
  refine PS.wk (ps_expr he hs) fun D σ H ⟨p, H0, F0, F, ρ, Dd, WD, f, x, r, q, k, kx⟩ => ?_
  exact ⟨p, H0, F, ρ, _, WD, x.fit f, r, q, fun d v F' H' y hv hq => k.nx σ F' H' ρ y.ff (x.trans f y) (r.ext y) hq, contx_e f x r kx⟩
theorem dpx_ret (he : DEX X W e te) : DPX X W (.Return (some e) pos) (fun WD D ρ => te WD ρ fun d => D.rt (.dat d)) := by
  refine PS.wk (ps_ret he) fun D σ H ⟨p, H0, F0, F, ρ, Dd, WD, f, x, r, q, k, kx⟩ => ?_
  exact ⟨p, H0, F, ρ, _, WD, x.fit f, r, q, fun d v F' H' y hv hq => k.rt (.dat d) v F' H' (x.trans f y) hv hq, contx_e f x r kx⟩
theorem dpx_set (i : Nat) {y : Str} {p' : Pos} (hN : X.N.Nodup) (he : DEX X W e te) (hi : X.N[i]? = some y := by rfl) (hx : Loc X.env.scope y := by first | exact Or.inl rfl | exact Or.inr rfl) (hs : swapsWith e (some (.Name y p')) pos.line X.env = pure false := by rfl)
    (hf : X.fn y = true ∨ X.env.scope.names.lookup y = some .local := by first | exact .inl rfl | exact .inr rfl) : DPX X W (.Assign [.Name y p'] e pos) (fun WD D ρ => te WD ρ fun d => D.nx (ρ.set i (.dat d))) := by
  refine PS.wk (ps_set hN hi hx he hs hf) fun D σ H ⟨p, H0, F0, F, ρ, Dd, WD, f, x, r, q, k, kx⟩ => ?_
  refine ⟨p, H0, F, ρ, _, WD, x.fit f, r, q, fun d v F' H' y hv hq => ?_, contx_e f x r kx⟩
  exact k.nx _ F' H' _ y.ff (x.trans f y) ((r.ext y).set i (some v) (sl := .dat d) ⟨v, rfl, hv⟩ (fun ds z => by cases z)) hq
end

/-! ### expressions that may raise -/
def tDLX (k : Kw) (mg : Str → Option Value) (t : WDT → DL_) (W : WX) : TA := fun σ H Q => ∃ p H0 F ρ, ∃ (Qd : List PyData → Prop) (WD : WDT), Fit p F H ∧ Rep k p H0 F H σ ρ ∧ t WD ρ Qd ∧ (∀ ds vs F' H', Ext p F H F' H' → DVs k.K F' vs ds → Qd ds → Q vs H') ∧
  ∀ z cls d F' H', Ext p F H F' H' → XnOk k mg p H F' H' cls d z → WD z ρ → W cls d σ H'
abbrev DLsX (X : Cx) (W : WX) (es : List Expr) (t : WDT → DL_) : Prop := PA X es (tDLX (kw X) X.mg t W)
section
variable {X : Cx} {W : WX} {e : Expr} {es : List Expr} {pos p' : Pos} {te : DTX} {u : WDT → DL_} {x : String} {st : Stmt} {k : Nat} {ps : List Str} {df : DFX} {ta : DAT}
theorem dex {t : DT} (h : DE X e t) : DEX X W e (fun _ => t) := PE.wk h fun σ H Q ⟨p, H0, F, ρ, Qd, WD, f, r, q, k, _⟩ => ⟨p, H0, F, ρ, Qd, f, r, q, k⟩
theorem dlx_nil : DLsX X W [] (fun _ => dNil) := PA.wk pa_nil fun σ H Q ⟨p, H0, F, ρ, Qd, WD, f, r, q, k, _⟩ => k [] [] F H (Ext.refl f.sub) .nil q
theorem dlx_cons (h : DEX X W e te) (hr : DLsX X W es u) (he : starEach (e :: es) X.env = (false, eval e X.env) :: starEach es X.env := by rfl) : DLsX X W (e :: es) (fun WD => dCons (te WD) (u WD)) := by
  refine PA.wk (pa_cons h hr he) fun σ H Q ⟨p, H0, F, ρ, Qd, WD, f, r, q, k, kx⟩ => ?_
  refine ⟨p, H0, F, ρ, _, WD, f, r, q, fun d v F' H' x hv hq => ?_, kx⟩
  exact ⟨p, H0, F', ρ, _, WD, x.fit f, r.ext x, hq, fun ds vs F2 H2 x2 v2 q2 => k (d :: ds) (v :: vs) F2 H2 (x.trans f x2) (.cons (hv.mono x2.ff) v2) q2,
    fun z cls d F2 H2 x2 hz hw => kx z cls d F2 H2 (x.trans f x2) (hz.back f x) hw⟩
theorem dex_lst (h : DLsX X W es u) : DEX X W (.List es pos) (fun WD => dLst (u WD)) := by
  refine PE.wk (pe_lst h) fun σ H Q ⟨p, H0, F, ρ, Qd, WD, f, r, q, k, kx⟩ => ?_
  refine ⟨p, H0, F, ρ, _, WD, f, r, q, fun ds vs F' H' x hv hq => ⟨by rw [sl_eq, hv.length]; exact hq.1, fun a ha => ?_⟩, kx⟩
  have y := Ext.new (x.fit f) (o := .lst vs) ha
  exact k _ _ _ _ (x.trans f y) (.lst (.of upd_same) (hv.mono y.ff)) hq.2
theorem dex_callB {id : String} {g : G1} {y : Str} (hc : CallD X (.builtin id) g) (hm : X.mg y = none) (ha : DLsX X W (e :: es) u) (hg : Gl X y := by rfl) (hv : bootBuiltins y = some (.builtin id) := by decide +kernel) (hn : y ≠ "__name__" := by decide) (hdb : (y == ("__debug__" : Str)) = false := by decide)
    (he : starEach (e :: es) X.env = (false, eval e X.env) :: starEach es X.env := by rfl) (hpl : (backTo pos (starEach es X.env)).any (·.1) = false := by rfl) : DEX X W (.Call (.Name y p') (e :: es) [] pos) (fun WD => dCB g (u WD)) := by
  obtain ⟨r, h1, h2⟩ := hc
  refine PE.wk (pe_callB h1 hg hm hv ha hn hdb he hpl) fun σ H Q ⟨p, H0, F, ρ, Qd, WD, f, rp, q, k, kx⟩ => ?_
  refine ⟨p, H0, F, ρ, _, WD, f, rp, q, fun ds vs F' H' x hv hq => ?_, kx⟩
  exact h2 p F' H' vs ds Qd Q (x.fit f) hv hq fun c z F2 H2 x2 v2 q2 => k c z F2 H2 (x.trans f x2) v2 q2
/-- a def that may raise, called -/
def dCallX (df : DFX) (t : DAT) : DTX := fun WD ρ Q => t ρ fun as => df as (fun r => Q r.data) fun z => WD z ρ
theorem dex_call (G : GoodX X.prog X.w X.K X.mg X.base x st k ps df) (hr : Rm k X.A) (tk : Takes X W) (ha : DA X (e :: es) ta)
    (hg : Gl X x := by rfl) (hdb : ((Str.ofString x) == ("__debug__" : Str)) = false := by decide) (he : starEach (e :: es) X.env = (false, eval e X.env) :: starEach es X.env := by rfl) (hpl : (backTo pos (starEach es X.env)).any (·.1) = false := by rfl) :
    DEX X W (.Call (.Name x p') (e :: es) [] pos) (dCallX df ta) := by
  obtain ⟨a, fd, hm, F, b, G⟩ := G
  refine ⟨fun pins s σ H Q I ⟨p, H0, Fr, ρ, Qd, WD, f, r, q, c, cx⟩ => ?_⟩
  have h2 : tDA (kw X) ta σ H fun vs H1 => spDX (kw X) X.mg df vs H1 Q (WE W σ) := by
    refine ⟨p, H0, Fr, ρ, _, f, r, q, fun as vs F' H' x hv hq => ?_⟩
    refine ⟨p, F', as, _, _, x.fit f, hv, hq, fun z v F2 H2 x2 v2 q2 => ?_, fun z cls d F2 H2 x2 hz hw => cx z cls d F2 H2 (x.trans f x2) (hz.back f x) hw⟩
    obtain ⟨F3, x3, v3⟩ := v2.rest x2
    exact c _ v F3 H2 (x.trans f x3) v3 q2
  refine wpAny_Call_Name_kw (ld_glob I hg hm ?_ hdb)
  refine PySem.W.callWith_K (h₀ := X.base) I.ok.mod.kin F.kp (thn (ha.run pos pins s σ H _ I h2) fun us s1 ⟨vs, H1, I1, r1, q1⟩ => ⟨I1.kIn, ?_⟩) he hpl
  have lu : us.length = ps.length := by rw [← r1.length]; exact G.len _ _ _ _ q1
  have bb : BindsTo s1 fd ⟨us, []⟩ (ps.zip us) := by
    have := b s1 us I1.kIn (by rw [List.append_nil]; exact lu)
    rw [List.append_nil] at this
    exact this
  refine wpAny_call (codeAny_mono (G.run X.A X.stack s1 H1 ⟨us, []⟩ us vs Q (WE W σ) hr I1.env0 bb r1 q1) fun r s' hq => ?_)
  cases r with
  | error e => exact passAt tk σ pins H1 s1 e s' I1 hq
  | ok fl =>
    cases fl with
    | ret u => exact I1.after hq
    | next => exact hq.elim
    | brk => exact hq.elim
    | cont => exact hq.elim
end

/-! ### raise x(e), x's class made by an own __init__ that keeps e in the field fi -/
def spI1 (K : PySem.W.Frag) (fi : Str) : Sp := fun vs H Q _ => ∃ (a C : Addr) (y : V), vs = [.ref a, y] ∧ OexC K C ∧ PySem.W.findIn K (.ref C) fi = some none ∧ H a = some (exo a C none) ∧
  ∀ dx, H dx = none → dx ≠ a → Q .non (upd (upd H dx (exd dx [(fi, y)])) a (exo a C (some dx)))
/-- the class x, its __init__ -/
structure Xc (K : PySem.W.Frag) (mg : Str → Option Value) (x fi : Str) (C fI : Addr) : Prop where
  at_ : mg x = some (.ref C)
  ox : OexC K C
  xf : XfC K C
  no : PySem.W.findIn K (.ref C) fi = some none
  init : PySem.W.findIn K (.ref C) "__init__" = some (some (.ref fI))
  ty : PySem.W.typeIn K (.ref fI) = some (.type "function")
  cl : PySem.W.findIn K (.ref C) "__class__" = some (some (.builtin "object.__class__"))
  mro : PySem.W.mroIn K C (.type "object") = some true
/-- the __init__ of one field -/
def InitOk (P : Program) (w : World) (K : PySem.W.Frag) (mg : Str → Option Value) (base : Heap) (fi : Str) (fI : Addr) : Prop :=
  ∃ (fd : FuncData) (ps : List Str), Binds K fd ps [] ∧ FnOk P w K mg base CX0 1 fI fd ps (spI1 K fi)
theorem init_ok {P : Program} {w : World} {K : PySem.W.Frag} {mg : Str → Option Value} {base : Heap} {fi qual : Str} {fI : Addr} {st : Stmt} {fd : FuncData} {p1 p2 p3 p4 : Pos} {u v : Str} (F : Fun K "__init__" qual st fI fd) (S : FnScope [u, v] [u, v] (defScope st))
    (hbd : ∀ (kV doc pm : Value) (an : Option Addr) (cdv ct : Value) (us : List Value), us.length = [u, v].length → bindArgs (PySem.W.fnOf "__init__" qual (defArgs st) (defBody st) (defScope st) .none kV doc pm an cdv ct) ⟨us, []⟩ = pure ([u, v].zip us))
    (hb : defBody st = [.Assign [.Attribute (.Name u p1) fi p2] (.Name v p3) p4])
    (hs : ∀ (A : Around) (X : Cx), swapsWith (.Name v p3) (some (.Attribute (.Name u p1) fi p2)) p4.line X.env = pure false) (h1 : Vis (defScope st) u) (h2 : Vis (defScope st) v)
    (d1 : (u == ("__debug__" : Str)) = false ∧ (u == ("__classdict__" : Str)) = false := by decide) (d2 : (v == ("__debug__" : Str)) = false ∧ (v == ("__classdict__" : Str)) = false := by decide) : InitOk P w K mg base fi fI := by
  refine ⟨fd, [u, v], F.binds hbd, F.ok (N := [u, v]) (k := 0) S (fun vs H Q E ⟨a, C, y, e, _⟩ => by rw [e]; rfl) fun cdv A outer s H vs Q E hr ⟨a, C, y, e, T, no, ea, q⟩ => ?_⟩
  subst e
  rw [hb]
  refine ⟨_, pss_one (ps_ost (pe_var (i := 0) (by rfl) h1 d1.1 d1.2) (pe_var (i := 1) (by rfl) h2 d2.1 d2.2) (hs A _)), ?_⟩
  refine ⟨y, rfl, .ref a, rfl, a, C, rfl, T, no, .inl ⟨ea, fun dx hd ne => q dx hd ne⟩⟩
section
variable {X : Cx} {W : WX} {e : Expr} {t : DT} {x fi : Str} {C fI : Addr} {p' pos pos' : Pos}
def dRaise (x fi : Str) (t : DT) : DSX := fun WD _ ρ => t ρ fun d => WD (x, [(fi, d)]) ρ
theorem dpx_raise (T : Xc X.K X.mg x fi C fI) (I : InitOk X.prog X.w X.K X.mg X.base fi fI) (hr : Rm 2 X.A) (hc : X.calm = true) (tk : Takes X W) (he : DE X e t) (hg : Gl X x := by rfl) (hdb : (x == ("__debug__" : Str)) = false := by decide)
    (h1 : starEach [e] X.env = (false, eval e X.env) :: starEach [] X.env := by rfl) (hpl : (backTo pos (starEach [] X.env)).any (·.1) = false := by rfl) : DPX X W (.Raise (some (.Call (.Name x p') [e] [] pos)) none pos') (dRaise x fi t) := by
  obtain ⟨fd, ps, hb, F⟩ := I
  refine PS.wk (ps_raise hc tk (pmk_oex T.ox T.init T.ty F hr.r hb .nil pass0 hg T.at_ (dl_cons he dl_nil h1) hdb h1 hpl)) fun D σ H ⟨p, H0, F0, F, ρ, Dd, WD, f, x1, r, q, k, kx⟩ => ?_
  refine ⟨p, H0, F, ρ, fun ds => match ds with | [d] => WD (x, [(fi, d)]) ρ | _ => False, x1.fit f, r, q, fun ds vs F' H' y hv hq => ?_⟩
  dsimp only at hq
  split at hq
  · rename_i d
    cases hv with
    | @cons v _ vs' _ hv1 hv2 =>
      cases hv2
      refine ⟨by simp, fun a ha => ⟨a, C, v, rfl, T.ox, T.no, upd_same, fun dx hd ne => ⟨rfl, dx, [(fi, v)], upd_same, ?_, ?_, ?_⟩⟩⟩
      · rw [upd_ne ne, upd_same]
      · rw [upd_ne ne] at hd; exact hd
      · have hd0 : H' dx = none := by rw [upd_ne ne] at hd; exact hd
        have f' := y.fit (x1.fit f)
        have hF : F' dx = none := f'.none hd0
        have ha' : H' a = none := ha
        have eq : upd (del (upd (upd (upd H' a (exo a C none)) dx (exd dx [(fi, v)])) a (exo a C (some dx))) a) dx (HO.xd [(fi, v)]) = upd H' dx (HO.xd [(fi, v)]) := by
          funext b
          by_cases h1 : b = dx
          · rw [h1, upd_same, upd_same]
          · rw [upd_ne h1, upd_ne h1]
            by_cases h2 : b = a
            · rw [h2, del_same, ha']
            · rw [del_ne h2, upd_ne h2, upd_ne h1, upd_ne h2]
        rw [eq]
        have j := Ext.junk f' (o := .xd [(fi, v)]) hd0
        have x2 := (x1.trans f y).trans f j
        exact kx σ F' _ ρ (x, [(fi, d)]) (.ref C) (some dx) y.ff x2 ((r.ext y).ext j) ⟨T.at_, .inr ⟨dx, [v], rfl, ⟨((x1.trans f y).new0 f hd0).1, hF, upd_same⟩, .cons hv1 .nil⟩⟩ hq
  · exact hq.elim
end
end DL


/-! try over data; what an except suite reads of its exception. -/
namespace DL
open PySem PySem.Spec PyProof.Rows L2

/-- the slot of the exception at a, its dict d -/
def excF (K : PySem.W.Frag) (a : Addr) (d : Option Addr) (z : Xn) : Option V → Hp → Prop := fun v F =>
  v = some (.ref a) ∧ ((z.2 = [] ∧ d = none) ∨ ∃ dd vs, d = some dd ∧ F dd = some (.xd ((z.2.map (·.1)).zip vs)) ∧ DVs K F vs (z.2.map (·.2)))
abbrev HdDT := TM × Option Nat × (Addr → Value → Option Addr → DS)
def hdD (K : PySem.W.Frag) (oi : Option Nat) (t : DS) (a : Addr) (d : Option Addr) (z : Xn) (D : DEnds) (ρ : Rho) : Prop := match oi with
  | none => t D ρ
  | some i => t { nx := fun ρ' => D.nx (ρ'.set i .emp), rt := D.rt, bk := fun ρ' => D.bk (ρ'.set i .emp), ct := fun ρ' => D.ct (ρ'.set i .emp) } (ρ.set i (.fact (excF K a d z)))
def wGD (K : PySem.W.Frag) (mg : Str → Option Value) (D : DEnds) : List HdDT → WDT
  | [] => fun _ _ => False
  | (m, oi, ts) :: r => fun z ρ => ∀ cls, mg z.1 = some cls → ∃ b, m cls = some b ∧ (b = true → ∀ a d, hdD K oi (ts a cls d) a d z D ρ) ∧ (b = false → wGD K mg D r z ρ)
def hdLift (k : Kw) : HdDT → TM × HdT := fun (m, oi, ts) => (m, oi, fun a cls d => tDS k (ts a cls d))
theorem NIs.addF {k : Kw} {p : Option Addr} {H0 F H : Hp} {dd : Addr} {fs : List (Str × V)} (e : H dd = some (.xd fs)) (n : F dd = none) {vs : List V} {its : List (Bool × PyData)} {as : List Addr} (h : NIs k p H0 F H vs its as) :
    NIs k p H0 (upd F dd (.xd fs)) H vs its as := by
  induction h with
  | nil => exact .nil
  | dat h _ ih => exact .dat (h.mono (same_upd n)) ih
  | own h r _ ih =>
    refine .own ⟨h.1, ?_, h.2.2.1, h.2.2.2⟩ (r.mono (same_upd n)) ih
    rw [upd_ne (fun z => by rw [z, e] at h; cases h.2.2.2)]
    exact h.2.1
theorem Rep.addF {k : Kw} {p : Option Addr} {H0 F H : Hp} {σ : Sg} {ρ : Rho} {dd : Addr} {fs : List (Str × V)} (r : Rep k p H0 F H σ ρ) (e : H dd = some (.xd fs)) (n : F dd = none) : Rep k p H0 (upd F dd (.xd fs)) H σ ρ := by
  have s : Same F (upd F dd (.xd fs)) := same_upd n
  have ne : ∀ {b : Addr} {o : HO}, H b = some o → o ≠ .xd fs → b ≠ dd := fun h q z => by
    rw [z, e] at h
    exact q (Option.some.inj h).symm
  refine ⟨r.len, fun i sl es => ?_, r.own⟩
  have h := r.all i sl es
  cases sl with
  | emp => trivial
  | dat d => obtain ⟨y, e1, r1⟩ := h; exact ⟨y, e1, r1.mono s⟩
  | own ds =>
    obtain ⟨b, ws, eb, b0, bn, bp, bh, br⟩ := h
    exact ⟨b, ws, eb, b0, by rw [upd_ne (ne bh (fun z => by cases z))]; exact bn, bp, bh, br.mono s⟩
  | pot => exact h
  | sett S =>
    obtain ⟨b, L, eb, bp, bh, br, bs⟩ := h
    exact ⟨b, L, eb, bp, bh, fun q hq => sqt_same s (br q hq), bs⟩
  | dic kds =>
    obtain ⟨b, L, ds, eb, ⟨b0, bn, bp, bh⟩, br, bw, bz⟩ := h
    exact ⟨b, L, ds, eb, ⟨b0, by rw [upd_ne (ne bh (fun z => by cases z))]; exact bn, bp, bh⟩, fun q hq => sqt_same s (br q hq), bw.mono s, bz⟩
  | rdic kds =>
    obtain ⟨b, L, ds, eb, ⟨b0, bn, bp, bh⟩, br, bw, bz⟩ := h
    exact ⟨b, L, ds, eb, ⟨b0, by rw [upd_ne (ne bh (fun z => by cases z))]; exact bn, bp, bh⟩, fun q hq => sqt_same s (br q hq), bw.mono s, bz⟩
  | mdic b kds =>
    obtain ⟨L, ds, eb, ⟨b0, bn, bp, bh⟩, br, bw, bz⟩ := h
    exact ⟨L, ds, eb, ⟨b0, by rw [upd_ne (ne bh (fun z => by cases z))]; exact bn, bp, bh⟩, fun q hq => sqt_same s (br q hq), bw.mono s, bz⟩
  | tmp its =>
    obtain ⟨t, vs, as, et, ⟨t0, tf, tp, th⟩, r1, nd⟩ := h
    exact ⟨t, vs, as, et, ⟨t0, by rw [upd_ne (ne th (fun z => by cases z))]; exact tf, tp, th⟩, r1.addF e n, nd⟩
  | fact φ => exact fun F2 e2 => h F2 (s.trans e2)
theorem hd_run {k : Kw} {mg : Str → Option Value} {p : Option Addr} {H0 F0 F F' H' : Hp} {σ' : Sg} {ρ' : Rho} {Dd : DEnds} {D : Ends} {z : Xn} {cls : Value} {d : Option Addr} {oi : Option Nat} {t : DS} {a : Addr} (f : Fit p F0 H0) (c : Conts k p H0 F0 F Dd D) (s : Same F F') (x : Ext p F0 H0 F' H') (r : Rep k p H0 F' H' σ' ρ')
    (hz : XnOk k mg p H0 F' H' cls d z) (h : hdD k.K oi t a d z Dd ρ') : hdRun oi (tDS k t) a D σ' H' := by
  have key : ∃ F2, Same F' F2 ∧ Ext p F0 H0 F2 H' ∧ Rep k p H0 F2 H' σ' ρ' ∧ ∀ F3, Same F2 F3 → excF k.K a d z (some (.ref a)) F3 := by
    rcases hz.2 with ⟨e1, e2⟩ | ⟨dd, vs, e1, ⟨n0, nf, hd⟩, rv⟩
    · exact ⟨F', Same.refl _, x, r, fun F3 _ => ⟨rfl, .inl ⟨e1, e2⟩⟩⟩
    · refine ⟨upd F' dd (.xd ((z.2.map (·.1)).zip vs)), same_upd nf, x.rest n0 hd nf, r.addF hd nf, fun F3 s3 => ⟨rfl, .inr ⟨dd, vs, e1, s3 _ _ upd_same, rv.mono ((same_upd nf).trans s3)⟩⟩⟩
  obtain ⟨F2, s2, x2, r2, hx⟩ := key
  have c2 := c.mono (s.trans s2)
  cases oi with
  | none => exact ⟨p, H0, F0, F2, ρ', Dd, f, x2, r2, h, c2⟩
  | some i =>
    refine ⟨p, H0, F0, F2, _, _, f, x2, r2.set i (some (.ref a)) (sl := .fact (excF k.K a d z)) hx (fun ds q => by cases q), h, ?_⟩
    have un : ∀ {σ4 : Sg} {F4 H4 : Hp} {ρ4 : Rho}, Rep k p H0 F4 H4 σ4 ρ4 → Rep k p H0 F4 H4 (σ4.set i none) (ρ4.set i .emp) := fun r4 => r4.set i none (sl := .emp) trivial (fun ds q => by cases q)
    exact ⟨fun σ4 F4 H4 ρ4 s4 x4 r4 q => c2.nx _ F4 H4 _ s4 x4 (un r4) q, fun σ4 F4 H4 ρ4 s4 x4 r4 q => c2.bk _ F4 H4 _ s4 x4 (un r4) q, fun σ4 F4 H4 ρ4 s4 x4 r4 q => c2.ct _ F4 H4 _ s4 x4 (un r4) q, c2.rt⟩
theorem wg_run {k : Kw} {mg : Str → Option Value} {p : Option Addr} {H0 F0 F F' H' : Hp} {σ' : Sg} {ρ' : Rho} {Dd : DEnds} {D : Ends} {z : Xn} {cls : Value} {d : Option Addr} {Wout : WX} (f : Fit p F0 H0) (c : Conts k p H0 F0 F Dd D) (s : Same F F') (x : Ext p F0 H0 F' H') (r : Rep k p H0 F' H' σ' ρ')
    (hz : XnOk k mg p H0 F' H' cls d z) : ∀ (l : List HdDT), wGD k.K mg Dd l z ρ' → wG Wout D (l.map (hdLift k)) cls d σ' H'
  | [], h => h.elim
  | (m, oi, ts) :: l, h => by
    obtain ⟨b, h1, h2, h3⟩ := h cls hz.1
    exact ⟨b, h1, fun e a _ => hd_run f c s x r hz (h2 e a d), fun e => wg_run f c s x r hz l (h3 e)⟩
section
variable {X : Cx} {body : List Stmt} {h₀ : ExceptHandler} {hds : List ExceptHandler} {l : List HdDT} {pos : Pos} {tb : DSX}
abbrev HdsD (X : Cx) (hds : List ExceptHandler) (l : List HdDT) : Prop := HdG X hds (l.map (hdLift (kw X)))
theorem hdsd_nil : HdsD X [] [] := .nil
theorem hdsd_one {t : Expr} {m : TM} {ts : Addr → Value → Option Addr → DS} {b₀ : Stmt} {suite : List Stmt} {pos' : Pos} (hc : TestOk X t m)
    (hsu : ∀ (a : Addr) (oe : Obj) (cls : Value) (d : Option Addr) (pn : List (Addr × Obj)), Zc cls d oe → (∃ vs, oe.data = .fields vs) → DPs (X.suite a ((a, oe) :: pn)) (b₀ :: suite) (ts a cls d)) (r : HdsD X hds l) : HdsD X (.ExceptHandler (some t) none (b₀ :: suite) pos' :: hds) ((m, none, ts) :: l) := .one hc hsu r
theorem hdsd_as {t : Expr} {m : TM} {ts : Addr → Value → Option Addr → DS} {b₀ : Stmt} {suite : List Stmt} {pos' : Pos} {n : Str} (i : Nat) (hc : TestOk X t m)
    (hsu : ∀ (a : Addr) (oe : Obj) (cls : Value) (d : Option Addr) (pn : List (Addr × Obj)), Zc cls d oe → (∃ vs, oe.data = .fields vs) → DPs (X.suite a ((a, oe) :: pn)) (b₀ :: suite) (ts a cls d)) (r : HdsD X hds l)
    (hi : X.N[i]? = some n := by rfl) (hln : X.env.kindOf n = some .local := by rfl) : HdsD X (.ExceptHandler (some t) (some n) (b₀ :: suite) pos' :: hds) ((m, some i, ts) :: l) := .as hi hln hc hsu r
theorem dp_try (K : PySem.W.Frag) (mg : Str → Option Value) (hK : X.K = K) (hmg : X.mg = mg) (hs : X.stack = X.env :: X.outer) (hf : X.env.frame = some X.env.locals) (hN : X.N.Nodup)
    (hb : ∀ (W : WX) (pn : List (Addr × Obj)) (xe : Value → Shared → Prop), Takes (X.tr pn xe) W → PassesOwn (model X.prog X.w) X.A X.env xe → DPXs (X.tr pn xe) W body tb) (hh : HdsD X (h₀ :: hds) l) :
    DP X (.Try body (h₀ :: hds) [] [] pos) (fun D ρ => tb (wGD K mg D l) D ρ) := by
  subst hK hmg
  refine PS.wk (ps_tryG (tb := fun W => tDSX (kw X) X.mg tb W) (Wout := fun _ _ _ _ => False) hs hf hN (fun _ _ ⟨_, _, _, _, _, _, _, _, _, _, _, _, _, _, _, _, w⟩ => w.elim) hb hh) fun D σ H ⟨p, H0, F0, F, ρ, Dd, f, x, r, q, k⟩ => ?_
  exact ⟨p, H0, F0, F, ρ, Dd, _, f, x, r, q, k, fun σ' F' H' ρ' z cls d s' x' r' hz hw => wg_run f k s' x' r' hz l hw⟩
end

/-! ### e.f, isinstance(e, C) in a suite -/
def dXf (K : PySem.W.Frag) (a : Addr) (cls : Value) (d : Option Addr) (i : Nat) (n : Str) : DT := fun ρ Q => ∃ (z : Xn) (v : PyData) (C : Addr), ρ[i]? = some (.fact (excF K a d z)) ∧ cls = .ref C ∧ XfC K C ∧ PySem.W.findIn K (.ref C) n = some none ∧ (z.2.map (·.1)).Nodup ∧ z.2.lookup n = some v ∧ Q v
theorem lookup_zip {K : PySem.W.Frag} {F : Hp} {n : Str} {v : PyData} : ∀ {fs : List (Str × PyData)} {vs : List V}, DVs K F vs (fs.map (·.2)) → fs.lookup n = some v → ∃ x, ((fs.map (·.1)).zip vs).lookup n = some x ∧ DV K F x v
  | [], _, _, h => by cases h
  | (m, d) :: fs, _, .cons (v := y) h1 h2, h => by
    by_cases e : n = m
    · subst e
      simp [List.lookup] at h ⊢
      subst h
      exact h1
    · have e' : (n == m) = false := by simpa using e
      simp only [List.lookup, e', List.map_cons, List.zip_cons_cons] at h ⊢
      exact lookup_zip h2 h
section
variable {X : Cx} {a : Addr} {oe : Obj} {cls : Value} {d : Option Addr} {pn : List (Addr × Obj)} {pos p' : Pos} {y n : Str}
theorem de_xf (K : PySem.W.Frag) (i : Nat) (hK : X.K = K) (hz : Zc cls d oe) (hf : ∃ vs, oe.data = .fields vs) (hN : X.N[i]? = some y := by rfl) (hv : Vis X.env.scope y := by first | exact Or.inl rfl | exact Or.inr (Or.inl rfl) | exact Or.inr (Or.inr rfl)) (hd : (y == ("__debug__" : Str)) = false := by decide)
    (hcd : (y == ("__classdict__" : Str)) = false := by decide) (hb : attributeBase (.Name y p') n X.env (eval (.Name y p') X.env) = eval (.Name y p') X.env := by rfl) : DE (X.suite a ((a, oe) :: pn)) (.Attribute (.Name y p') n pos) (dXf K a cls d i n) := by
  subst hK
  refine ⟨fun pins s σ H Q I ⟨p, H0, F, ρ, Qd, f, r, ⟨z, v, C, e1, ec, T, no, _, hl, q⟩, k⟩ => ?_⟩
  obtain ⟨ea, hx⟩ := r.all i _ e1 F (Same.refl _)
  rcases hx with ⟨e2, _⟩ | ⟨dd, vs, ed, hF, rv⟩
  · rw [e2] at hl; cases hl
  · obtain ⟨x, hx, rx⟩ := lookup_zip rv hl
    exact (pe_xf (X := X) T no hz hf (pe_var (X := X.suite a ((a, oe) :: pn)) hN hv hd hcd) hb).run pins s σ H Q I ⟨.ref a, slv_of ea, rfl, ec, dd, _, x, ed, f.sub _ _ hF, hx, k v x F H (Ext.refl f.sub) rx q⟩
/-- isinstance(e, C2) -/
def dXis (K : PySem.W.Frag) (a : Addr) (cls : Value) (d : Option Addr) (i : Nat) (c2 : Value) : DT := fun ρ Q => ∃ (z : Xn) (C : Addr) (b : Bool), ρ[i]? = some (.fact (excF K a d z)) ∧ cls = .ref C ∧ XfC K C ∧ PySem.W.findIn K (.ref C) "__class__" = some (some (.builtin "object.__class__")) ∧ PySem.W.mroIn K C (.type "object") = some true ∧
  PySem.W.specialIn K (.builtin "object.__class__") "__get__" = some (some (.builtin "getset_descriptor.__get__")) ∧ PySem.W.takesIn K (.builtin "object.__class__") = some true ∧ PySem.W.kitOne K (.ref C) c2 = some b ∧ Q (.bool b)
def rIsX (K : PySem.W.Frag) (a : Addr) (cls : Value) (d : Option Addr) : List V → Hp → VK → Prop := fun xs H Q => ∃ (D : Addr) (c : V) (cv : Value) (b : Bool), cls = .ref D ∧ XfC K D ∧ PySem.W.findIn K (.ref D) "__class__" = some (some (.builtin "object.__class__")) ∧ PySem.W.mroIn K D (.type "object") = some true ∧
  PySem.W.specialIn K (.builtin "object.__class__") "__get__" = some (some (.builtin "getset_descriptor.__get__")) ∧ PySem.W.takesIn K (.builtin "object.__class__") = some true ∧
  xs = [.ref a, c] ∧ (∀ u, RelV c u → u = cv) ∧ PySem.W.kitOne K (.ref D) cv = some b ∧ (∀ dd, d = some dd → ∃ fs, H dd = some (.xd fs)) ∧ Q (.bl b) H
theorem call_isX (hz : Zc cls d oe) (hf : ∃ vs, oe.data = .fields vs) : CallR (X.suite a ((a, oe) :: pn)) (.builtin "isinstance") (rIsX X.K a cls d) := by
  intro pins s σ H xs us Q I r h
  obtain ⟨D, c, cv, b, ec, T, ha, hm, hn, ht, rfl, hcv, e, hdd, q⟩ := h
  subst ec
  cases r with
  | cons rx rr =>
    cases rr with
    | cons rt rr =>
      cases rr
      cases rx
      have ec := hcv _ rt
      subst ec
      obtain ⟨hget, _⟩ := I.pin (a, oe) (List.mem_append.mpr (.inl List.mem_cons_self))
      obtain ⟨vs, hv⟩ := hf
      have hcl : (PySem.W.clsIn X.K D).isSome = true := by
        have := T.hdC
        unfold PySem.W.hasDictIn at this
        cases e3 : PySem.W.clsIn X.K D with
        | none => rw [e3] at this; cases this
        | some _ => rfl
      have fin : ∀ od : Option Obj, PySem.W.InstAt s.heap a oe D od → wpAny (model X.prog X.w) (X.suite a ((a, oe) :: pn)).A (call (.builtin "isinstance") [.ref a, _]) (EP (X.suite a ((a, oe) :: pn)) pins σ Q) (X.suite a ((a, oe) :: pn)).xe s := fun od J =>
        PySem.W.kia_one (PySem.W.kitx_exc (od := od) (ox := oe) hcl T.ga T.gg T.exC ha hn ht hm) I.kIn J e (fun z => nomatch z) fun tk => ⟨.bl b, H, I.kept (t' := tk) fun _ _ z => z, rfl, q⟩
      cases d with
      | none =>
        refine fin none ?_
        obtain ⟨oc, oda, odt, osl⟩ := oe
        obtain ⟨h1, h2⟩ := hz
        dsimp only at h1 h2 hv
        subst h1 h2 hv
        exact ⟨hget, rfl, rfl, trivial⟩
      | some dd =>
        obtain ⟨fs, hx⟩ := hdd dd rfl
        have hx : ObjOk X.prog X.w H s.heap dd (.xd fs) := I.hok dd _ hx
        obtain ⟨mA, hns, hr⟩ := hx
        obtain ⟨od, ho, hl⟩ := lookIn_ns hns
        exact fin (some od) ⟨hget, hz.1, by unfold PySem.W.notCls; rw [hv] <;> rfl, by rw [hz.2]; exact ho⟩
theorem de_xis (K : PySem.W.Frag) (i : Nat) (hK : X.K = K) {x2 : Str} {c2 : Addr} {pp p2 p3 : Pos} (hz : Zc cls d oe) (hf : ∃ vs, oe.data = .fields vs) (hm : X.mg "isinstance" = none) (h2 : X.mg x2 = some (.ref c2)) (hN : X.N[i]? = some y := by rfl) (hv : Vis X.env.scope y := by first | exact Or.inl rfl | exact Or.inr (Or.inl rfl) | exact Or.inr (Or.inr rfl)) (hd : (y == ("__debug__" : Str)) = false := by decide)
    (hcd : (y == ("__classdict__" : Str)) = false := by decide) (hg : Gl X "isinstance" := by rfl) (hg2 : Gl X x2 := by rfl) (hd2 : (x2 == ("__debug__" : Str)) = false := by decide)
    (hs1 : starEach [.Name y p2, .Name x2 p3] X.env = (false, eval (.Name y p2) X.env) :: starEach [.Name x2 p3] X.env := by rfl) (hs2 : starEach [.Name x2 p3] X.env = (false, eval (.Name x2 p3) X.env) :: starEach [] X.env := by rfl)
    (hpl : (backTo pos (starEach [.Name x2 p3] X.env)).any (·.1) = false := by rfl) : DE (X.suite a ((a, oe) :: pn)) (.Call (.Name "isinstance" pp) [.Name y p2, .Name x2 p3] [] pos) (dXis K a cls d i (.ref c2)) := by
  subst hK
  refine PE.wk (pe_callB (X := X.suite a ((a, oe) :: pn)) (call_isX hz hf) hg hm PyProof.Rows.boot_isinstance (pa_cons (pe_var hN hv hd hcd) (pa_cons (pe_glob (v := .ref c2) hg2 h2 rfl hd2) pa_nil hs2) hs1) (by decide) (by decide) hs1 hpl)
    fun σ H Q ⟨p, H0, F, ρ, Qd, f, r, ⟨z, C, b, e1, ec, T, h1, h2, h3, h4, h5, q⟩, k⟩ => ?_
  obtain ⟨ea, hx⟩ := r.all i _ e1 F (Same.refl _)
  refine ⟨.ref a, slv_of ea, C, .ref c2, .ref c2, b, ec, T, h1, h2, h3, h4, rfl, fun u hu => hu, h5, fun dd ed => ?_, k (.bool b) (.bl b) F H (Ext.refl f.sub) (.bl b) q⟩
  rcases hx with ⟨_, e2⟩ | ⟨dd', vs, ed', hF, rv⟩
  · rw [e2] at ed; cases ed
  · rw [ed] at ed'
    cases ed'
    exact ⟨_, f.sub _ _ hF⟩
end
end DL


/-! Texts over data: join, split, signs in a text, walks over texts; pop. -/
namespace DLS
open PySem PySem.Spec PyProof.Rows L2
/-- enumerate(x), x a text: the pair (i, its sign) -/
def IteS (x : Str) : It := ⟨fun i H => i < x.cps.size, fun i H v H' => ∃ T c, v = .ref T ∧ H T = none ∧ H' = upd H T (.tup [.int (i : Nat), .str ⟨#[c]⟩]) ∧ x.cps[i]? = some c, fun i H => x.cps.size ≤ i⟩
theorem turn_enumS {P : Program} {w : World} {K : PySem.W.Frag} {elts : List Expr} {kk : Nat} {tpos : Pos} {e it : Addr} {x : Str} {t : Tok} :
    Turn P w K (.Tuple elts kk tpos) (IteS x) [e, it] e (fun i h => (∃ old, IsEnum h e it ((i : Nat) : Int) old) ∧ h.IsStrIter it (strIterType x) x t i ∧ e ≠ it) where
  mem := by simp
  obj := fun i h st b hb => by
    obtain ⟨⟨old, he⟩, ⟨o, ho, hc, hd⟩, _⟩ := st
    have e' : b = e ∨ b = it := by simpa using hb
    rcases e' with z | z
    · rw [z]; exact ⟨_, he, fun v q => nomatch q⟩
    · rw [z]; exact ⟨o, ho, fun v q => by rw [hd] at q; cases q⟩
  keep := fun i h h' st k => by
    obtain ⟨⟨old, he⟩, ⟨o, ho, hr⟩, hne⟩ := st
    exact ⟨⟨old, k e (by simp) _ he⟩, ⟨o, k it (by simp) o ho, hr⟩, hne⟩
  item := by
    intro X hP hw hK hc i pins s σ H E I hf st hg
    subst hP hw hK
    obtain ⟨⟨old, he⟩, hit, hne⟩ := st
    have hel : e < s.heap.objs.size := Heap.lt_size he
    have hil : it < s.heap.objs.size := by obtain ⟨_, q, _⟩ := hit; exact Heap.lt_size q
    have hh : X.A.in1.handled = none := I.ok.hd hc
    refine wpAny_pyNext_enum_itemD (Draws.text hh it x t) he hit hg hne (by simp [hne]) fun x' h' tk hP' ho hst hT hsz hk => ?_
    obtain ⟨c, u, hcx, rfl⟩ := hP'
    refine ⟨_, rfl, wpAny_letOwnedTupleGo_enum (s := { s with heap := h', toks := tk + 1 }) ho fun h'' he' sb => ?_⟩
    have hT2 : h''.get? s.heap.objs.size = some { cls := .type "tuple", data := .seq #[.int i tk, .str ⟨#[c]⟩ u] } := (sb.2 _ (Nat.ne_of_gt hel)).trans hT
    have new : ObjOk X.prog X.w (upd H s.heap.objs.size (.tup [.int (i : Nat), .str ⟨#[c]⟩])) h'' s.heap.objs.size (.tup [.int (i : Nat), .str ⟨#[c]⟩]) :=
      ⟨by show 2 ≤ sizeLine; decide, [.int i tk, .str ⟨#[c]⟩ u], .cons ⟨_, rfl⟩ (.cons ⟨_, rfl⟩ .nil), ⟨_, hT2, rfl, _, rfl⟩⟩
    have I1 : Inv X pins σ (upd H s.heap.objs.size (.tup [.int (i : Nat), .str ⟨#[c]⟩])) { s with heap := h'', toks := tk + 1 } :=
      I.turnedNew (ch := [e, it]) (fun b ob hb q => (sb.2 b (fun z => hb (by simp [z]))).trans (hk b ob (fun z => hb (by simp [z])) (fun z => hb (by simp [z])) q)) hf (Nat.le_refl _) new
    refine ⟨.ref s.heap.objs.size, _, I1, rfl, ⟨_, c, rfl, I.hok.fresh (Nat.le_refl _), rfl, hcx⟩, ⟨⟨.str ⟨#[c]⟩ u, ?_⟩, ?_, hne⟩, fun b hb => ?_⟩
    · have e1 : ((i + 1 : Nat) : Int) = (i : Int) + 1 := by omega
      rw [e1]; exact he'
    · obtain ⟨o, ho2, hr⟩ := hst
      exact ⟨o, (sb.2 it (Ne.symm hne)).trans ho2, hr⟩
    · have hb' : b < s.heap.objs.size := by
        have e' : b = e ∨ b = it := by simpa using hb
        rcases e' with z | z
        · rw [z]; exact hel
        · rw [z]; exact hil
      rw [upd_ne (Nat.ne_of_lt hb')]
      exact (hf b hb).1
  done := by
    intro X hP hw hK hc i pins s σ H E I hf st hg
    subst hP hw hK
    obtain ⟨⟨old, he⟩, hit, hne⟩ := st
    have hge : x.cps.size ≤ i := hg
    obtain ⟨f0, f1, f2, f3, f4, f5⟩ := hf it (by simp)
    have hh : X.A.in1.handled = none := I.ok.hd hc
    have hT : s.TypeIs (.ref e) "enumerate" := ⟨_, he, rfl⟩
    have hx : x.cps[i]? = none := Array.getElem?_eq_none hge
    unfold pyNext
    refine wpAny_bind (wpAny_attempt (wpAny_callSpecial?_slot (name := Str.ofString "__next__") hT F.slot_enumerate_next
      (wpAny_call_entry F.slot_enumerate_next hT F.entry_enumerate_next ?_ (F.args_enumerate_next_1 _))))
    show wpAny _ _ (field (.ref e) 2 >>= _) _ _ _
    refine wpAny_bind (wpAny_field he rfl (x := .ref it) rfl ?_)
    cases ha : x.cps.all (· < 128)
    · simp only [strIterType, ha, Bool.false_eq_true, if_false] at hit
      refine wpAny_bind (wpAny_nextOf_wide_end hh hit hx fun h' y he' hx' => ?_)
      obtain ⟨o, ho, hc'⟩ := hx'
      refine wpAny_bind (wpAny_isInstance (T := "StopIteration") (b := true) ⟨o, ho, hc'⟩ isSubtype_stop ?_)
      exact wpAny_pure ⟨rfl, I.turned (t' := s.toks) (fun b o hb q => he' b o hb q) f0 f1 f3 f4 f5⟩
    · simp only [strIterType, ha, if_true] at hit
      refine wpAny_bind (wpAny_nextOf_ascii_end hh hit hx fun h' y he' hx' => ?_)
      obtain ⟨o, ho, hc'⟩ := hx'
      refine wpAny_bind (wpAny_isInstance (T := "StopIteration") (b := true) ⟨o, ho, hc'⟩ isSubtype_stop ?_)
      exact wpAny_pure ⟨rfl, I.turned (t' := s.toks) (fun b o hb q => he' b o hb q) f0 f1 f3 f4 f5⟩
  self := fun A i s Q E st h => let ⟨⟨_, he⟩, _⟩ := st; wpAny_pyIter_enum he h
def iEnumS (ta : TA) : TI := fun σ H R => ta σ H fun vs H1 => ∃ x : Str, vs = [.str x] ∧ R (IteS x) H1
theorem pi_enumS {X : Cx} {e : Expr} {ta : TA} {p pos tpos : Pos} {elts : List Expr} {kk : Nat} (hg : Gl X "enumerate") (hm : X.mg "enumerate" = none) (ha : PA X [e] ta) (hs : starEach [e] X.env = [(false, eval e X.env)] := by rfl) :
    PI X (.Tuple elts kk tpos) (.Call (.Name "enumerate" p) [e] [] pos) (iEnumS ta) := by
  refine ⟨fun pins s σ H R I h => ?_⟩
  refine Call_ (ld_blt I hg hm boot_enumerate (PyProof.Rows.callWith_type1 (thn (ha.run pos pins s σ H _ I h) fun us s1 ⟨vs, H1, I1, r1, q1⟩ => ?_) hs rfl))
  obtain ⟨x, ex, q⟩ := q1
  subst ex
  cases r1 with
  | cons r rr =>
    cases rr
    obtain ⟨t, rfl⟩ := r
    have fresh : ∀ b, b ∈ [s1.heap.objs.size + 1, s1.heap.objs.size] → FpOk X pins H1 b := fun b hb => by
      have e' : b = s1.heap.objs.size + 1 ∨ b = s1.heap.objs.size := by simpa using hb
      have hle : s1.heap.objs.size ≤ b := by
        rcases e' with z | z
        · rw [z]; exact Nat.le_add_right _ _
        · rw [z]; exact Nat.le_refl _
      exact I1.fpOk hle (I1.hok.fresh hle)
    refine call_enumerate_str fun h' he hit hsz hk => wpAny_pyIter_enum he ?_
    have I2 : Inv X pins σ H1 { s1 with heap := h' } := I1.kept (t' := s1.toks) hk
    exact ⟨s1.heap.objs.size + 1, [s1.heap.objs.size + 1, s1.heap.objs.size], _, _, H1, rfl, I2, turn_enumS (t := t), ⟨⟨.none, he⟩, hit, Nat.succ_ne_self _⟩, fresh, q⟩
end DLS
namespace DL
open PySem PySem.Spec PyProof.Rows L2
/-- a text's signs -/
def signs (x : Str) : List PyData := x.cps.toList.map fun c => .str ⟨#[c]⟩
theorem signs_get {x : Str} {i : Nat} : (signs x)[i]? = (x.cps[i]?).map fun c => PyData.str ⟨#[c]⟩ := by
  unfold signs
  rw [List.getElem?_map, Array.getElem?_toList]
theorem signs_length {x : Str} : (signs x).length = x.cps.size := by simp [signs]
section
variable {X : Cx} {tg e l o : Expr} {t to te : DT} {u : DL_} {pos p' apos tpos : Pos}
def iSig (t : DT) : DIT := fun ρ Q => t ρ fun d => match d with | .str x => Q (signs x) | _ => False
theorem walkD_sig {K : PySem.W.Frag} {p : Option Addr} {F1 : Hp} {x : Str} : WalkD K p F1 (Its x) (signs x) := by
  refine ⟨_, _, by rw [signs_length]; exact walk_str, fun _ _ _ _ => trivial, fun i F2 H2 v H3 hi s f y => ?_⟩
  obtain ⟨e, c, hc, hv⟩ := y
  subst e hv
  exact ⟨F2, .str ⟨#[c]⟩, Ext.refl f.sub, by rw [signs_get, hc]; rfl, .str _⟩
theorem di_str (hl : DE X l t) : DI X tg l (iSig t) := by
  refine PI.wk (pi_str hl) fun σ H R ⟨p, H0, F, ρ, Qd, f, r, q, k⟩ => ?_
  refine ⟨p, H0, F, ρ, _, f, r, q, fun d v F' H' x hv hq => ?_⟩
  split at hq
  · cases hv
    exact ⟨_, rfl, k _ _ F' H' x walkD_sig hq⟩
  · exact hq.elim
def iEnumSD (u : DL_) : DIT := fun ρ Q => u ρ fun zs => match zs with | [.str x] => Q (enumD 0 (signs x)) | _ => False
theorem di_enumS {elts : List Expr} {kk : Nat} (hm : X.mg "enumerate" = none) (ha : DLs X [e] u) (hg : Gl X "enumerate" := by rfl) (hs : starEach [e] X.env = [(false, eval e X.env)] := by rfl) :
    DI X (.Tuple elts kk tpos) (.Call (.Name "enumerate" p') [e] [] pos) (iEnumSD u) := by
  refine PI.wk (DLS.pi_enumS hg hm ha hs) fun σ H R ⟨p, H0, F, ρ, Qd, f, r, q, k⟩ => ?_
  refine ⟨p, H0, F, ρ, _, f, r, q, fun zs vs F' H' x hv hq => ?_⟩
  split at hq
  · rename_i z
    cases hv with
    | cons h t =>
      cases t
      cases h
      refine ⟨z, rfl, k _ _ F' H' x ?_ hq⟩
      refine ⟨fun _ => True, fun i H v H' => ∃ T c, v = .ref T ∧ H T = none ∧ H' = upd H T (.tup [.int (i : Nat), .str ⟨#[c]⟩]) ∧ z.cps[i]? = some c, ?_, fun _ _ _ _ => trivial, fun i F2 H2 v H3 hi s f y => ?_⟩
      · rw [enumD_length, signs_length]
        exact ⟨fun _ _ hi _ => hi, fun _ _ => Nat.le_refl _, fun _ _ _ _ _ _ y => y⟩
      · obtain ⟨T, c, rfl, hT, rfl, hc⟩ := y
        have xx := Ext.new f (o := .tup [.int (i : Nat), .str ⟨#[c]⟩]) hT
        refine ⟨_, .tuple [.int (i : Nat), .str ⟨#[c]⟩], xx, ?_, .tup (.of upd_same) (.cons (.int _) (.cons (.str _) .nil))⟩
        rw [enumD_get, signs_get, hc]
        simp
  · exact hq.elim
/-- one sign in a text -/
def gInS (neg : Bool) : G2 := fun d e Q => match d, e with | .str x, .str z => ∃ c, x = ⟨#[c]⟩ ∧ Q (.bool (if neg then !decide (c ∈ z.cps.toList) else decide (c ∈ z.cps.toList))) | _, _ => False
theorem od_inS : OpD X (compareOp .In) (gInS false) := by
  refine ⟨_, op_inS, fun p F H x y d e Qd Q f rx ry hg q => ?_⟩
  unfold gInS at hg
  split at hg
  · obtain ⟨c, rfl, h⟩ := hg
    cases rx; cases ry
    exact ⟨c, _, rfl, rfl, q _ _ F H (Ext.refl f.sub) (.bl _) h⟩
  · exact hg.elim
theorem od_ninS : OpD X (compareOp .NotIn) (gInS true) := by
  refine ⟨_, op_notInS, fun p F H x y d e Qd Q f rx ry hg q => ?_⟩
  unfold gInS at hg
  split at hg
  · obtain ⟨c, rfl, h⟩ := hg
    cases rx; cases ry
    exact ⟨c, _, rfl, rfl, q _ _ F H (Ext.refl f.sub) (.bl _) h⟩
  · exact hg.elim
theorem DVs.strs {K : PySem.W.Frag} {F : Hp} : ∀ {vs : List V} {ys : List Str}, DVs K F vs (ys.map PyData.str) → vs = ys.map V.str
  | _, [], .nil => rfl
  | _, y :: ys, .cons h t => by cases h; rw [DVs.strs t]; rfl
theorem DVs.of_strs {K : PySem.W.Frag} {F : Hp} : ∀ (ys : List Str), DVs K F (ys.map V.str) (ys.map PyData.str)
  | [] => .nil
  | y :: ys => .cons (.str y) (DVs.of_strs ys)
/-- o.join(e), e a list of texts -/
def dJoin (to te : DT) : DT := fun ρ Q => to ρ fun d => match d with
  | .str a => te ρ fun c => (match c with
    | .list ds => ∃ ys : List Str, ds = ys.map PyData.str ∧ (ys.map (·.length)).sum + ys.length * a.length ≤ 16777216 ∧ Q (.str (Txt.join a ys))
    | _ => False)
  | _ => False
theorem de_join (ho : DE X o to) (he : DE X e te) (hs : starEach [e] X.env = [(false, eval e X.env)] := by rfl) (hbase : attributeBase o "join" X.env (eval o X.env) = eval o X.env := by rfl) (hline : (apos.endLine == pos.line) = true := by rfl) :
    DE X (.Call (.Attribute o "join" apos) [e] [] pos) (dJoin to te) := by
  refine PE.wk (pe_join ho he hs hbase hline) fun σ H Q ⟨p, H0, F, ρ, Qd, f, r, q, k⟩ => ?_
  refine ⟨p, H0, F, ρ, _, f, r, q, fun d v F' H' x hv hq => ?_⟩
  split at hq
  · rename_i a
    cases hv
    refine ⟨⟨a, rfl⟩, p, H0, F', ρ, _, x.fit f, r.ext x, hq, fun c w F2 H2 x2 hw hq2 => ?_⟩
    split at hq2
    · obtain ⟨ys, rfl, hz, h⟩ := hq2
      cases hw with
      | @lst b ws _ h1 h2 =>
        have e := h2.strs
        subst e
        exact ⟨a, b, ys, rfl, rfl, .inl (sql_same x2.fh h1), hz, k _ _ F2 H2 (x.trans f x2) (.str _) h⟩
    · exact hq2.elim
  · exact hq.elim
/-- o.split(e) -/
def oSplit (to te : DT) : DOT := fun ρ Q => to ρ fun d => match d with
  | .str a => te ρ fun c => (match c with
    | .str b => ((b.length == 0) = false ∧ a.length + 2 ≤ 16777216) ∧ Q ((Txt.split a b).map PyData.str)
    | _ => False)
  | _ => False
theorem do_split (ho : DE X o to) (he : DE X e te) (hs : starEach [e] X.env = [(false, eval e X.env)] := by rfl) (hbase : attributeBase o "split" X.env (eval o X.env) = eval o X.env := by rfl) (hline : (apos.endLine == pos.line) = true := by rfl) :
    DO X (.Call (.Attribute o "split" apos) [e] [] pos) (oSplit to te) := by
  refine PE.wk (pe_split ho he hs hbase hline) fun σ H Q ⟨p, H0, F, ρ, Qd, f, r, q, k⟩ => ?_
  refine ⟨p, H0, F, ρ, _, f, r, q, fun d v F' H' x hv hq => ?_⟩
  split at hq
  · rename_i a
    cases hv
    refine ⟨⟨a, rfl⟩, p, H0, F', ρ, _, x.fit f, r.ext x, hq, fun c w F2 H2 x2 hw hq2 => ?_⟩
    split at hq2
    · rename_i b
      cases hw
      obtain ⟨⟨h1, h2⟩, h⟩ := hq2
      refine ⟨a, b, rfl, rfl, h1, by rw [sl_eq]; exact h2, fun a' ha => ?_⟩
      have xx := x.trans f x2
      have f' := xx.fit f
      have n0 := xx.new0 f ha
      exact k _ (.ref a') F2 _ (xx.trans f (Ext.junk f' ha)) ⟨a', _, rfl, n0.1, f'.none ha, n0.2, upd_same, DVs.of_strs _⟩ h
    · exact hq2.elim
  · exact hq.elim
end

/-! ### a, b = y.pop(), [] -/
section
variable {X : Cx} {pos pc pa pn px py pt pl : Pos} {kt k2 : Nat} {pt2 : Pos} {kl : Pos}
def dPopNew (i j l : Nat) : DS := fun D ρ => match ρ[i]? with
  | some (.own ds) => match ds.getLast? with
    | some z => (noTmp ρ = true ∧ i ≠ j ∧ i ≠ l) ∧ D.nx (((ρ.set i (.own ds.dropLast)).set j (.dat z)).set l (.dat (.list [])))
    | none => False
  | _ => False
theorem DVs.dropLast {K : PySem.W.Frag} {F : Hp} {vs : List V} {ds : List PyData} (h : DVs K F vs ds) : DVs K F vs.dropLast ds.dropLast := by
  rw [List.dropLast_eq_take, List.dropLast_eq_take, h.length]
  exact h.take _
theorem ds_popNew (i j l : Nat) {y a b : Str} (hc : X.calm = true) (hN : X.N.Nodup) (hjl : j ≠ l := by decide) (hi : X.N[i]? = some y := by rfl) (hj : X.N[j]? = some a := by rfl) (hl : X.N[l]? = some b := by rfl)
    (hv : Vis X.env.scope y := by first | exact Or.inl rfl | exact Or.inr (Or.inl rfl) | exact Or.inr (Or.inr rfl)) (hd : (y == ("__debug__" : Str)) = false := by decide) (hcd : (y == ("__classdict__" : Str)) = false := by decide)
    (ha : X.env.scope.names.lookup a = some .local := by rfl) (hb : X.env.scope.names.lookup b = some .local := by rfl)
    (hbase : attributeBase (.Name y pn) "pop" X.env (eval (.Name y pn) X.env) = eval (.Name y pn) X.env := by rfl) (hline : (pa.endLine == pc.line) = true := by rfl)
    (hw : swappedStores [.Tuple [.Name a px, .Name b py] kt pt] (.Tuple [.Call (.Attribute (.Name y pn) "pop" pa) [] [] pc, .List [] kl] k2 pt2) X.env = pure (some [a, b]) := by rfl)
    (hs : swapsWithSole [.Tuple [.Name a px, .Name b py] kt pt] (.Tuple [.Call (.Attribute (.Name y pn) "pop" pa) [] [] pc, .List [] kl] k2 pt2) pos.line X.env = pure false := by rfl)
    (e1 : starEach [.Call (.Attribute (.Name y pn) "pop" pa) [] [] pc, .List [] kl] X.env = (false, eval (.Call (.Attribute (.Name y pn) "pop" pa) [] [] pc) X.env) :: starEach [.List [] kl] X.env := by rfl) (e2 : starEach [.List [] kl] X.env = (false, eval (.List [] kl) X.env) :: starEach [] X.env := by rfl) :
    DP X (.Assign [.Tuple [.Name a px, .Name b py] kt pt] (.Tuple [.Call (.Attribute (.Name y pn) "pop" pa) [] [] pc, .List [] kl] k2 pt2) pos) (dPopNew i j l) := by
  refine PS.wk (ps_par hc hN hj hl hjl ha hb (pa_cons (pe_bm0 PySem.F.plainAttrs_list PySem.F.slot_list_pop PySem.F.type_list_pop mt_pop (pe_var hi hv hd hcd) hbase hline) (pa_cons (pe_lst pa_nil) pa_nil e2) e1) hw hs) fun D σ H ⟨p, H0, F0, F, ρ, Dd, f, x, r, q, k⟩ => ?_
  unfold dPopNew at q
  split at q
  · rename_i ds ei
    split at q
    · rename_i z ez
      obtain ⟨a', vs, es, ea, h0, n, hp, eh, rv⟩ := own_at r ei
      obtain ⟨⟨nt, hij, hil⟩, q⟩ := q
      obtain ⟨y', ey, ry⟩ := rv.get (by rw [List.getLast?_eq_getElem?] at ez; exact ez)
      refine ⟨.ref a', es, .inl ⟨rfl, vs, .of eh⟩, a', vs, y', rfl, rfl, eh, by rw [rv.length]; exact ey, ?_⟩
      refine ⟨by decide, fun b' hb' => ⟨y', .ref b', rfl, ?_⟩⟩
      have x1 := x.write (o := .lst vs.dropLast) h0 n hp
      have r1 := r.write (vs' := vs.dropLast) (ds' := ds.dropLast) ei ea rv.dropLast nt
      have f1 := x1.fit f
      have x2 := Ext.new f1 (o := .lst []) hb'
      have r2 := r1.ext x2
      have r3 := r2.set j (some y') (sl := .dat z) ⟨y', rfl, ry.mono x2.ff⟩ (fun ds q => by cases q)
      have r4 := r3.set l (some (.ref b')) (sl := .dat (.list [])) ⟨_, rfl, .lst (.of upd_same) .nil⟩ (fun ds q => by cases q)
      exact k.nx _ _ _ _ x2.ff (x1.trans f x2) r4 q
    · exact q.elim
  · exact q.elim
end
end DL
namespace DL
open PySem PySem.Spec PyProof.Rows L2
/-! ### pot[0], d = divmod(pot[0], m) -/
section
variable {X : Cx} {pos p1 p2 p3 p4 p5 p6 p7 pd pt pc : Pos} {jj kt : Nat} {em : Expr} {t : DT}
def dPotDiv (i j : Nat) (t : DT) : DS := fun D ρ => match ρ[i]? with
  | some .pot => ∀ n : Int, 0 ≤ n → t ρ fun d => 0 ≤ n ∧ (match d with | .int m => CDiv 0 m ∧ ∀ r, 0 ≤ r → r < m → D.nx (ρ.set j (.dat (.int r))) | _ => False)
  | _ => False
theorem ds_potDiv (i j : Nat) {y z : Str} (hc : X.calm = true) (hN : X.N.Nodup) (hmD : X.mg "divmod" = none) (hm : DE X em t) (hij : i ≠ j := by decide) (hi : X.N[i]? = some y := by rfl) (hv : Vis X.env.scope y := by first | exact Or.inl rfl | exact Or.inr (Or.inl rfl) | exact Or.inr (Or.inr rfl)) (hd : (y == ("__debug__" : Str)) = false := by decide) (hcd : (y == ("__classdict__" : Str)) = false := by decide)
    (hj : X.N[j]? = some z := by rfl) (hx : Loc X.env.scope z := by first | exact Or.inl rfl | exact Or.inr rfl) (hf : X.fn z = true ∨ X.env.scope.names.lookup z = some .local := by first | exact .inl rfl | exact .inr rfl) (hgd : Gl X "divmod" := by rfl)
    (ha : ∀ v, assign (.Subscript (.Name y p1) (.Constant (.int 0) jj p3) p2) X.env v = (do
      let ov ← holding [v] (eval (.Name y p1) X.env)
      let iv ← holding [v, ov] (eval (.Constant (.int 0) jj p3) X.env)
      standAt p2
      holding [v, ov, iv] (setItem ov iv v)
      release [v, ov, iv] []) := by intro _; rfl)
    (hs1 : (assignEach [.Subscript (.Name y p1) (.Constant (.int 0) jj p3) p2, .Name z p4] X.env).map (·.2) = assign (.Subscript (.Name y p1) (.Constant (.int 0) jj p3) p2) X.env :: (assignEach [.Name z p4] X.env).map (·.2) := by rfl)
    (hs2 : (assignEach [.Name z p4] X.env).map (·.2) = assign (.Name z p4) X.env :: (assignEach [] X.env).map (·.2) := by rfl)
    (hn : (assignEach [.Subscript (.Name y p1) (.Constant (.int 0) jj p3) p2, .Name z p4] X.env).length = 2 := by rfl) (hst : (assignEach [.Subscript (.Name y p1) (.Constant (.int 0) jj p3) p2, .Name z p4] X.env).findIdx? (·.1) = none := by rfl)
    (he1 : starEach [.Subscript (.Name y p5) (.Constant (.int 0) jj p6) p7, em] X.env = (false, eval (.Subscript (.Name y p5) (.Constant (.int 0) jj p6) p7) X.env) :: starEach [em] X.env := by rfl) (he2 : starEach [em] X.env = (false, eval em X.env) :: starEach [] X.env := by rfl)
    (hpl : (backTo pc (starEach [em] X.env)).any (·.1) = false := by rfl)
    (hs : swapsWithSole [.Tuple [.Subscript (.Name y p1) (.Constant (.int 0) jj p3) p2, .Name z p4] kt pt] (.Call (.Name "divmod" pd) [.Subscript (.Name y p5) (.Constant (.int 0) jj p6) p7, em] [] pc) pos.line X.env = pure false := by rfl)
    (hw : swappedStores [.Tuple [.Subscript (.Name y p1) (.Constant (.int 0) jj p3) p2, .Name z p4] kt pt] (.Call (.Name "divmod" pd) [.Subscript (.Name y p5) (.Constant (.int 0) jj p6) p7, em] [] pc) X.env = pure none := by rfl)
    (h1 : (assignEach [.Tuple [.Subscript (.Name y p1) (.Constant (.int 0) jj p3) p2, .Name z p4] kt pt] X.env).map (·.2) = [assign (.Tuple [.Subscript (.Name y p1) (.Constant (.int 0) jj p3) p2, .Name z p4] kt pt) X.env] := by rfl) :
    DP X (.Assign [.Tuple [.Subscript (.Name y p1) (.Constant (.int 0) jj p3) p2, .Name z p4] kt pt] (.Call (.Name "divmod" pd) [.Subscript (.Name y p5) (.Constant (.int 0) jj p6) p7, em] [] pc) pos) (dPotDiv i j t) := by
  refine PS.wk (ps_asg (pe_callB call_divmod hgd hmD PyProof.Rows.boot_divmod (dl_cons (de_potIx (j := 0) i hi hv hd hcd) (dl_cons hm dl_nil he2) he1) (by decide) (by decide) he1 hpl)
    (pg_tup hc (pgs_cons (pg_sub (pe_var hi hv hd hcd) pe_int set_list ha) (pgs_cons (pg_name hN hj hx hf) pgs_nil hs2) hs1) hn hst) hs hw h1) fun D σ H ⟨p, H0, F0, F, ρ, Dd, f, x, r, q, k⟩ => ?_
  unfold dPotDiv at q
  split at q
  · rename_i ei
    refine ⟨p, H0, F, ρ, fun ds => match ds with
      | [.int n, d] => 0 ≤ n ∧ (match d with | .int m => CDiv 0 m ∧ ∀ r, 0 ≤ r → r < m → Dd.nx (ρ.set j (.dat (.int r))) | _ => False)
      | _ => False, x.fit f, r, ?_, fun ds vs F1 H1 y1 hv1 q1 => ?_⟩
    · simp only [dCons, dPotIx, ei, dNil]
      exact ⟨.inl trivial, fun n n0 _ => q n n0⟩
    · dsimp only at q1
      split at q1
      · rename_i n d
        obtain ⟨n0, q1⟩ := q1
        split at q1
        · rename_i m
          cases hv1 with
          | cons h t =>
            cases h
            cases t with
            | cons h t =>
              cases h
              cases t
              obtain ⟨hd, q1⟩ := q1
              refine ⟨n, m, rfl, hd, fun a ha' => ?_⟩
              obtain ⟨c, ec, hp⟩ := r.all i _ ei
              have x1 := x.trans f y1
              have f1 := x1.fit f
              have x2 := x1.trans f (Ext.junk f1 (o := .tup [.int (n / m), .int (n % m)]) ha')
              have r2 := (r.ext y1).ext (Ext.junk f1 (o := .tup [.int (n / m), .int (n % m)]) ha')
              have f2 := x2.fit f
              have hpot := (f2.pot c hp).2
              obtain ⟨a1, b1, hh, z1, z2, z3⟩ := id hpot
              have m0 := hd.1
              refine ⟨a, _, rfl, .of upd_same, rfl, _, _, rfl, .ref c, slv_of ec, c, _, 0, 0, rfl, rfl, hh, rfl, _, _, rfl, rfl, ?_⟩
              refine k.nx _ F1 _ _ y1.ff (x2.potw f hp ⟨Int.ediv_nonneg n0 (by omega), z2, z3⟩) ((r2.potw hp hpot _).set j (some (.int (n % m))) (sl := .dat (.int (n % m))) ⟨_, rfl, .int _⟩ (fun ds q => by cases q)) ?_
              exact q1 (n % m) (Int.emod_nonneg n (by omega)) (Int.emod_lt_of_pos n m0)
        · exact q1.elim
      · exact q1.elim
  · exact q.elim
end
end DL
namespace DL
open PySem PySem.Spec PyProof.Rows L2
/-! ### f(g(..)), g's new list the pot of f -/
section
variable {X : Cx} {k : Nat} {ps : List Str} {df : DF} {x : String} {st : Stmt} {p' pos : Pos} {e : Expr} {to : DOT}
def dCallPot (df : DF) (to : DOT) : DT := fun ρ Q => to ρ fun ds => match ds with
  | [.int a, .int b] => (0 ≤ a ∧ 0 ≤ b ∧ b < 4294967296) ∧ df [.p] fun r => Q r.data
  | _ => False
theorem de_callPot (G : Good X.prog X.w X.K X.mg X.base x st k ps df) (hr : Rm k X.A) (he : DO X e to)
    (hg : Gl X x := by rfl) (hdb : ((Str.ofString x) == ("__debug__" : Str)) = false := by decide) (h1 : starEach [e] X.env = (false, eval e X.env) :: starEach [] X.env := by rfl) (hpl : (backTo pos (starEach [] X.env)).any (·.1) = false := by rfl) :
    DE X (.Call (.Name x p') [e] [] pos) (dCallPot df to) := by
  obtain ⟨a, fd, hm, F, b, G⟩ := G
  refine ⟨fun pins s σ H Q I ⟨p, H0, Fr, ρ, Qd, f, r, q, c⟩ => ?_⟩
  have h2 : tO (kw X) to σ H fun v H1 => spD (kw X) df [v] H1 Q E0 := by
    refine ⟨p, H0, Fr, ρ, _, f, r, q, fun ds v F' H' y hv hq => ?_⟩
    split at hq
    · rename_i i j
      obtain ⟨ok, hq⟩ := hq
      obtain ⟨d, vs, rfl, h0, n, np, eh, rv⟩ := hv
      have ev : vs = [.int i, .int j] := by
        cases rv with
        | cons h1 t => cases h1; cases t with | cons h2 t => cases h2; cases t; rfl
      subst ev
      refine ⟨some d, F', [.p], _, ⟨y.fh, fun q e => by cases e; exact ⟨n, i, j, eh, ok⟩⟩, .cons (.p rfl) .nil, hq, fun z v F2 H2 x2 v2 q2 => ?_⟩
      have xx := y.newPot f h0 x2
      have v3 : ResOk (kw X) p H F2 H2 v z := v2.newPot y f
      obtain ⟨F3, x3, v4⟩ := v3.rest xx
      exact c _ v F3 H2 x3 v4 q2
    · exact hq.elim
  refine wpAny_Call_Name_kw (ld_glob I hg hm ?_ hdb)
  refine PySem.W.callWith_K (h₀ := X.base) I.ok.mod.kin F.kp (thn ((pa_cons he pa_nil h1).run pos pins s σ H (fun vs H1 => spD (kw X) df vs H1 Q E0) I h2) fun us s1 ⟨vs, H1, I1, r, q⟩ => ⟨I1.kIn, ?_⟩) h1 hpl
  have bb : us.length = ps.length → BindsTo s1 fd ⟨us, []⟩ (ps.zip us) := fun hl => by
    have := b s1 us I1.kIn (by rw [List.append_nil]; exact hl)
    rw [List.append_nil] at this
    exact this
  refine wpAny_call (codeAny_mono (run_g G hr bb pass0 I1 r q) fun r s' hq => ?_)
  cases r with
  | error e => exact hq
  | ok fl =>
    cases fl with
    | ret u => exact hq
    | next => exact hq.elim
    | brk => exact hq.elim
    | cont => exact hq.elim
end
end DL
namespace DL
open PySem PySem.Spec PyProof.Rows L2
section
variable {X : Cx} {pos p1 p2 p3 : Pos} {e : Expr} {te : DT}
/-- xs[::-1], xs a list -/
def dRevL (t : DT) : DT := fun ρ Q => t ρ fun d => match d with | .list xs => xs.length ≤ 16777216 ∧ Q (.list xs.reverse) | _ => False
theorem de_revL {k : Nat} (he : DE X e te) : DE X (.Subscript e (.Slice none none (some (.UnaryOp .USub (.Constant (.int 1) k p1) p2)) p3) pos) (dRevL te) := by
  refine PE.wk (pe_revL he) fun σ H Q ⟨p, H0, F, ρ, Qd, f, r, q, k⟩ => ?_
  refine ⟨p, H0, F, ρ, _, f, r, q, fun d v F' H' x hv hq => ?_⟩
  cases d with
  | list xs =>
    cases hv with
    | @lst a ys _ h1 h2 =>
      refine ⟨a, ys, rfl, sql_same x.fh h1, fun l hl => ?_⟩
      have y := Ext.new (x.fit f) (o := .lst ys.reverse) hl
      exact k _ _ _ _ (x.trans f y) (.lst (.of upd_same) (h2.reverse.mono y.ff)) hq.2
  | _ => exact hq.elim
end
end DL


/-! zip of a text and a tuple; constants of the module: tuples, dicts with text keys (get); kinds.index(True). -/
namespace DLS
open PySem PySem.Spec PyProof.Rows L2
def ItzS (K : PySem.W.Frag) (x : Str) (b : Addr) : It :=
  ⟨fun i H => i < x.cps.size ∧ ∃ (ys : List V) (y : V), SqT K H b ys ∧ ys[i]? = some y,
    fun i H v H' => ∃ T c y, v = .ref T ∧ H T = none ∧ H' = upd H T (.tup [.str ⟨#[c]⟩, y]) ∧ x.cps[i]? = some c ∧ ∀ ys, SqT K H b ys → ys[i]? = some y,
    fun i H => ∃ ys : List V, SqT K H b ys ∧ i ≤ x.cps.size ∧ i ≤ ys.length ∧ (i = x.cps.size ∨ i = ys.length)⟩
theorem turn_zipS {P : Program} {w : World} {K : PySem.W.Frag} {elts : List Expr} {kk : Nat} {tpos : Pos} {x : Str} {tx : Tok} {b z TI TO i1 i2 : Addr} (D : ZipSep2 z TI TO i1 i2 [i1] [i2, b]) :
    Turn P w K (.Tuple elts kk tpos) (ItzS K x b) [z, TI, TO, i1, i2] z (fun i h => IsZip h z TI TO .none ∧ IsTupOf2 h TI (.ref i1) (.ref i2) ∧ (∃ x y, IsTupOf2 h TO x y) ∧ h.IsStrIter i1 (strIterType x) x tx i ∧ h.IsTupleIter i2 b i) where
  mem := by simp
  obj := fun i h st c hc => by
    obtain ⟨hz, hTI, ⟨x, y, hTO⟩, ⟨o1, e1, _, d1⟩, ⟨o2, e2, _, d2⟩⟩ := st
    have e' : c = z ∨ c = TI ∨ c = TO ∨ c = i1 ∨ c = i2 := by simpa using hc
    rcases e' with q | q | q | q | q
    · rw [q]; exact ⟨_, hz, fun v q => nomatch q⟩
    · rw [q]; exact ⟨_, hTI, fun v q => nomatch q⟩
    · rw [q]; exact ⟨_, hTO, fun v q => nomatch q⟩
    · rw [q]; exact ⟨o1, e1, fun v q => by rw [d1] at q; cases q⟩
    · rw [q]; exact ⟨o2, e2, fun v q => by rw [d2] at q; cases q⟩
  keep := fun i h h' st k => by
    obtain ⟨hz, hTI, ⟨x, y, hTO⟩, ⟨o, ho, hr⟩, h2⟩ := st
    exact ⟨k z (by simp) _ hz, k TI (by simp) _ hTI, ⟨x, y, k TO (by simp) _ hTO⟩, ⟨o, k i1 (by simp) o ho, hr⟩, h2.at fun o q => k i2 (by simp) o q⟩
  item := by
    intro X hP hw hK hc i pins s σ H E I hf st hg
    subst hP hw hK
    obtain ⟨hz, hTI, ⟨x0, y0, hTO⟩, h1, h2⟩ := st
    obtain ⟨hlt, ys, y, hqy, hy⟩ := hg
    obtain ⟨its2, rv2, p2, _⟩ := I.tuple hqy
    obtain ⟨u2, hu2, ru2⟩ := rv2.get hy
    have hzl : z < s.heap.objs.size := Heap.lt_size hz
    have hh : X.A.in1.handled = none := I.ok.hd hc
    have hbi : b ≠ i2 := fun q => by
      obtain ⟨o, ho, hcl, _⟩ := id p2
      obtain ⟨o2, ho2, hc2, _⟩ := id h2
      rw [q, ho2] at ho
      cases ho
      rw [hc2] at hcl
      simp at hcl
    have l2 : i < its2.toArray.size := by simpa using (List.getElem?_eq_some_iff.mp hu2).1
    refine wpAny_pyNext_zipD2_item D (Draws.text hh i1 x tx) (Draws.tuple hh i2 b hbi its2.toArray) hz hTI hTO h1 ⟨h2, p2⟩ hlt l2 fun x1 x2 h' tk P1 P2 z' TO' h1' h2' hT hsz hk => ?_
    obtain ⟨c, u, hcx, rfl⟩ := P1
    have e2 : x2 = u2 := by
      have : its2.toArray[i]? = some u2 := by simpa using hu2
      rw [this] at P2
      exact (Option.some.inj P2).symm
    subst e2
    refine ⟨_, rfl, wpAny_letOwnedTupleGo_zip (s := { s with heap := h', toks := tk }) z' fun h'' z'' sb => ?_⟩
    have hT2 : h''.get? s.heap.objs.size = some { cls := .type "tuple", data := .seq #[.str ⟨#[c]⟩ u, x2] } := (sb.2 _ (Nat.ne_of_gt hzl)).trans hT
    have new : ObjOk X.prog X.w (upd H s.heap.objs.size (.tup [.str ⟨#[c]⟩, y])) h'' s.heap.objs.size (.tup [.str ⟨#[c]⟩, y]) :=
      ⟨by show 2 ≤ sizeLine; decide, [.str ⟨#[c]⟩ u, x2], .cons ⟨_, rfl⟩ (.cons ru2 .nil), ⟨_, hT2, rfl, _, rfl⟩⟩
    have I1 : Inv X pins σ (upd H s.heap.objs.size (.tup [.str ⟨#[c]⟩, y])) { s with heap := h'', toks := tk } :=
      I.turnedNew (ch := [z, TI, TO, i1, i2]) (fun c o hb q => (sb.2 c (fun q' => hb (by simp [q']))).trans (hk c o (fun q' => hb (by simp [q'])) (fun q' => hb (by simp [q'])) (fun q' => hb (by simp [q'])) (fun q' => hb (by simp [q'])) q)) hf (Nat.le_refl _) new
    refine ⟨.ref s.heap.objs.size, _, I1, rfl, ⟨_, c, y, rfl, I.hok.fresh (Nat.le_refl _), rfl, hcx, fun l hl => by rw [I.tuple_inj hl hqy]; exact hy⟩, ⟨z'', ?_, ⟨.str ⟨#[c]⟩ u, x2, ?_⟩, ?_, ?_⟩, fun c hcm => ?_⟩
    · exact (sb.2 _ D.TIz).trans (hk _ _ D.TIz D.TITO D.TIi1 D.TIi2 hTI)
    · exact (sb.2 _ D.TOz).trans TO'
    · obtain ⟨o, ho, hr⟩ := h1'
      exact ⟨o, (sb.2 _ (Ne.symm D.zi1)).trans ho, hr⟩
    · exact h2'.1.at fun o q => (sb.2 _ (Ne.symm D.zi2)).trans q
    · have hlt : c < s.heap.objs.size := by
        have e' : c = z ∨ c = TI ∨ c = TO ∨ c = i1 ∨ c = i2 := by simpa using hcm
        rcases e' with q | q | q | q | q
        · rw [q]; exact hzl
        · rw [q]; exact Heap.lt_size hTI
        · rw [q]; exact Heap.lt_size hTO
        · rw [q]; obtain ⟨_, e1, _⟩ := h1; exact Heap.lt_size e1
        · rw [q]; obtain ⟨_, e2, _⟩ := h2; exact Heap.lt_size e2
      rw [upd_ne (Nat.ne_of_lt hlt)]
      exact (hf c hcm).1
  done := by
    intro X hP hw hK hc i pins s σ H E I hf st hg
    subst hP hw hK
    obtain ⟨hz, hTI, ⟨x0, y0, hTO⟩, h1, h2⟩ := st
    obtain ⟨ys, hqy, hle1, hle2, hend⟩ := hg
    obtain ⟨its2, rv2, p2, _⟩ := I.tuple hqy
    have l2 := rv2.length
    have hh : X.A.in1.handled = none := I.ok.hd hc
    have hbi : b ≠ i2 := fun q => by
      obtain ⟨o, ho, hcl, _⟩ := id p2
      obtain ⟨o2, ho2, hc2, _⟩ := id h2
      rw [q, ho2] at ho
      cases ho
      rw [hc2] at hcl
      simp at hcl
    have e2 : its2.toArray.size = ys.length := by simp; omega
    exact wpAny_pyNext_zipD2_end D (Draws.text hh i1 x tx) (Draws.tuple hh i2 b hbi its2.toArray) hz hTI hTO h1 ⟨h2, p2⟩ hle1 (by omega) (by omega) fun h' tk hk => ⟨rfl, I.turnedL (ch := [z, TI, TO, i1, i2]) (fun c o hb q =>
      hk c o (fun q' => hb (by simp [q'])) (fun q' => hb (by simp [q'])) (fun q' => hb (by simp [q'])) (fun q' => hb (by simp [q'])) q) hf⟩
  self := fun A i s Q E st h => wpAny_pyIter_zip st.1 h
def iZipS (K : PySem.W.Frag) (ta : TA) : TI := fun σ H R => ta σ H fun vs H1 => ∃ x b ys, vs = [.str x, .ref b] ∧ SqT K H1 b ys ∧ R (ItzS K x b) H1
theorem pi_zipS {X : Cx} {e e2 : Expr} {ta : TA} {p pos tpos : Pos} {elts : List Expr} {kk : Nat} (hg : Gl X "zip") (hm : X.mg "zip" = none) (ha : PA X [e, e2] ta)
    (hs : starEach [e, e2] X.env = (false, eval e X.env) :: starEach [e2] X.env := by rfl) (hpl : (backTo pos (starEach [e2] X.env)).any (·.1) = false := by rfl) :
    PI X (.Tuple elts kk tpos) (.Call (.Name "zip" p) [e, e2] [] pos) (iZipS X.K ta) := by
  refine ⟨fun pins s σ H R I h => ?_⟩
  refine Call_ (ld_blt I hg hm PyProof.Rows.boot_zip (PyProof.Rows.callWith_type1 (thn (ha.run pos pins s σ H _ I h) fun us s1 ⟨vs, H1, I1, r1, q1⟩ => ?_) hs hpl))
  obtain ⟨x, b, ys, ex, hqy, q⟩ := q1
  subst ex
  cases r1 with
  | cons r rr =>
    cases rr with
    | cons r' rr =>
      cases rr
      obtain ⟨t, rfl⟩ := r
      cases r'
      have fresh5 : ∀ c, c ∈ [s1.heap.objs.size + 4, s1.heap.objs.size + 2, s1.heap.objs.size + 3, s1.heap.objs.size, s1.heap.objs.size + 1] → FpOk X pins H1 c := fun c hcm => by
        have e' : c = s1.heap.objs.size + 4 ∨ c = s1.heap.objs.size + 2 ∨ c = s1.heap.objs.size + 3 ∨ c = s1.heap.objs.size ∨ c = s1.heap.objs.size + 1 := by simpa using hcm
        have hle : s1.heap.objs.size ≤ c := by
          rcases e' with z | z | z | z | z
          · rw [z]; exact Nat.le_add_right _ _
          · rw [z]; exact Nat.le_add_right _ _
          · rw [z]; exact Nat.le_add_right _ _
          · rw [z]; exact Nat.le_refl _
          · rw [z]; exact Nat.le_add_right _ _
        exact I1.fpOk hle (I1.hok.fresh hle)
      obtain ⟨its2, rv2, p2, _⟩ := I1.tuple hqy
      obtain ⟨o2, ho2, _⟩ := id p2
      have hb : b < s1.heap.objs.size := Heap.lt_size ho2
      refine zip_begins2 (begins_text x t) (begins_tuple b its2.toArray) trivial p2 fun h' hz hTI hTO h1 h2 hsz hk => wpAny_pyIter_zip hz ?_
      have I2 : Inv X pins σ H1 { s1 with heap := h' } := I1.kept (t' := s1.toks) hk
      exact ⟨s1.heap.objs.size + 4, [s1.heap.objs.size + 4, s1.heap.objs.size + 2, s1.heap.objs.size + 3, s1.heap.objs.size, s1.heap.objs.size + 1], _, _, H1, rfl, I2, turn_zipS (tx := t) (zip_sep2 (fp1 := []) (fp2 := [b]) (fun b hb => nomatch hb) (fun c hc => by rw [List.mem_singleton.mp hc]; exact hb)), ⟨hz, hTI, ⟨_, _, hTO⟩, ⟨_, h1, rfl, rfl⟩, ⟨_, h2, rfl, rfl⟩⟩, fresh5, q⟩
end DLS
namespace DLS
open PySem PySem.Spec PyProof.Rows L2
/-! ### a dict of the module: text keys, texts -/
def lookC : List (Str × Str) → Str → Option Str
  | [], _ => none
  | p :: r, k => if p.1 = k then some p.2 else lookC r k
/-- an entry -/
def EntC (w : World) (e : DictEntry) (p : Str × Str) : Prop := e.hash = hashStr w p.1 ∧ (∃ t, e.key = .str p.1 t) ∧ ∃ t, e.val = .str p.2 t
inductive EntsC (w : World) : List DictEntry → List (Str × Str) → Prop
  | nil : EntsC w [] []
  | cons {e : DictEntry} {es : List DictEntry} {p : Str × Str} {kvs : List (Str × Str)} : EntC w e p → EntsC w es kvs → EntsC w (e :: es) (p :: kvs)
def DicC (K : PySem.W.Frag) (w : World) (a : Addr) (kvs : List (Str × Str)) : Prop :=
  ∃ o es ep, K.lookup a = some o ∧ o.ExactDict ∧ o.data = .dict es ep ∧ (a == sysModules) = false ∧ EntsC w es.toList kvs ∧ (kvs.map (·.1)).Nodup
theorem EntsC.pairs {P : Program} {w : World} {es : List DictEntry} {kvs : List (Str × Str)} (h : EntsC w es kvs) :
    ∃ vs : List (Key × Value), Pairs (mixKind P w) es vs ∧ vs.map (·.1) = kvs.map (fun p => Sum.inr p.1) ∧ (∀ e ∈ es, ∃ k, (mixKind P w).is k e.key = true ∧ e.hash = (mixKind P w).hash k) ∧
      ∀ k, RelO ((lookC kvs k).map V.str) (valueAt vs (Sum.inr k)) := by
  induction h with
  | nil => exact ⟨[], .nil, rfl, (fun e m => nomatch m), fun k => trivial⟩
  | @cons e es p kvs h1 _ ih =>
    obtain ⟨vs, h2, h3, h4, h5⟩ := ih
    obtain ⟨a, ⟨t, b⟩, u, c⟩ := h1
    have kb : (mixKind P w).is (Sum.inr p.1) e.key = true := by rw [b]; exact strKind_is P w p.1 t
    refine ⟨(Sum.inr p.1, e.val) :: vs, .cons kb rfl h2, by simp [h3], fun x m => ?_, fun k => ?_⟩
    · rcases List.mem_cons.mp m with rfl | m
      · exact ⟨Sum.inr p.1, kb, a⟩
      · exact h4 x m
    · unfold lookC
      by_cases q : p.1 = k
      · rw [if_pos q]
        have : valueAt ((Sum.inr p.1, e.val) :: vs : List (Key × Value)) (Sum.inr k) = some e.val := by simp [valueAt, List.find?_cons, q]
        rw [this, c]
        exact ⟨u, rfl⟩
      · rw [if_neg q]
        have : valueAt ((Sum.inr p.1, e.val) :: vs : List (Key × Value)) (Sum.inr k) = valueAt vs (Sum.inr k) := by simp [valueAt, List.find?_cons, q]
        rw [this]
        exact h5 k
section
variable {X : Cx} {e : Expr} {ty : TE} {a : Addr} {kvs : List (Str × Str)} {x : Str} {p apos cpos : Pos}
def tGetC (kvs : List (Str × Str)) (ty : TE) : TE := fun σ H Q => ty σ H fun y H2 => ∃ k, y = .str k ∧ Q (((lookC kvs k).map V.str).getD .non) H2
theorem pe_getC (D : DicC X.K X.w a kvs) (hm : X.mg x = some (.ref a)) (he : PE X e ty) (m : M1 X (.Name x p) "get" apos e cpos) (hg : Gl X x := by rfl) (hd : (x == ("__debug__" : Str)) = false := by decide) :
    PE X (.Call (.Attribute (.Name x p) "get" apos) [e] [] cpos) (tGetC kvs ty) := by
  refine ⟨fun pins s σ H Q I h => ?_⟩
  have ho : PE X (.Name x p) (tC (.ref a)) := pe_glob (v := .ref a) hg hm rfl hd
  refine wpAny_Call_method m.base m.few m.line PySem.F.plainAttrs_dict PySem.F.slot_dict_get PySem.F.type_dict_get (thn (ho.run pins s σ H (fun y H1 => y = .ref a ∧ tGetC kvs ty σ H1 Q) I ⟨rfl, h⟩) fun u s1 ⟨y, H1, I1, rx, ex, q1⟩ => ?_)
  subst ex
  obtain rfl : u = Value.ref a := rx
  obtain ⟨o, es, ep, lk, xd, hdt, sm, ents, nd⟩ := D
  have at1 : s1.heap.get? a = some o := I1.kIn _ _ lk
  obtain ⟨vs, h2, h3, h4, h5⟩ := ents.pairs (P := X.prog)
  have nd2 : (vs.map (·.1)).Nodup := by
    rw [h3]
    have : kvs.map (fun p => (Sum.inr p.1 : Key)) = (kvs.map (·.1)).map Sum.inr := by rw [List.map_map]; rfl
    rw [this]
    exact nd.map _ fun a b ne q => ne (Sum.inr.inj q)
  have dict : ∀ h : Heap, h.get? a = some o → h.DictOf (mixKind X.prog X.w) a vs := fun h hq => ⟨o, es, ep, hq, xd, hdt, fun e m => h4 e (Array.mem_toList_iff.mpr m), h2, nd2⟩
  refine ⟨(dict _ at1).typeIs, fun b q => by cases q; exact ⟨o, at1, xd.2.1⟩, ?_⟩
  rw [m.trees]
  refine Calls.callWith_builtin rfl (Calls.evalArgs_plain (Calls.spliced_cons (thn (he.run pins s1 σ H1 _ I1 q1) fun iv s2 ⟨y, H2, I2, ry, k, ey, q2⟩ => Calls.spliced_nil ?_)))
  subst ey
  have dd := dict _ (I2.kIn _ _ lk)
  refine call_meetsIn PySem.F.slot_dict_get dd.typeIs PySem.F.entry_dict_get (PySem.F.args_dict_get_2 _ _) (meets_dict_get (mixKind X.prog X.w) a (kV_is (k := Sum.inr k) ry) sm) ⟨_, dd.mapOf, ?_⟩
  exact ⟨_, H2, I2.tok _, (h5 k).getD (show RelV V.non Value.none from rfl), q2⟩
end
end DLS
namespace DL
open PySem PySem.Spec PyProof.Rows L2
section
variable {X : Cx} {e e2 l : Expr} {t ta tb : DT} {u : DL_} {p p' pos apos cpos tpos : Pos}
/-- zip(x, y), x a text, y a tuple -/
def iZipSD (u : DL_) : DIT := fun ρ Q => u ρ fun zs => match zs with
  | [.str x, .tuple es] => Q (prD2 (signs x) es)
  | _ => False
theorem di_zipS {elts : List Expr} {kk : Nat} (hm : X.mg "zip" = none) (ha : DLs X [e, e2] u) (hg : Gl X "zip" := by rfl) (hs : starEach [e, e2] X.env = (false, eval e X.env) :: starEach [e2] X.env := by rfl) (hpl : (backTo pos (starEach [e2] X.env)).any (·.1) = false := by rfl) :
    DI X (.Tuple elts kk tpos) (.Call (.Name "zip" p') [e, e2] [] pos) (iZipSD u) := by
  refine PI.wk (DLS.pi_zipS hg hm ha hs hpl) fun σ H R ⟨p, H0, F, ρ, Qd, f, r, q, k⟩ => ?_
  refine ⟨p, H0, F, ρ, _, f, r, q, fun zs vs F' H' x hv hq => ?_⟩
  split at hq
  · rename_i z es
    cases hv with
    | cons h t =>
      cases t with
      | cons h' t' =>
        cases t'
        cases h
        cases h' with
        | @tup b ys _ h3 h4 =>
          refine ⟨z, b, ys, rfl, sqt_same x.fh h3, k _ _ F' H' x ?_ hq⟩
          have ll : (prD2 (signs z) es).length = min z.cps.size ys.length := by simp [prD2, signs, h4.length]
          refine ⟨fun H => SqT X.K H b ys, fun i H v H' => ∃ T c y, v = .ref T ∧ H T = none ∧ H' = upd H T (.tup [.str ⟨#[c]⟩, y]) ∧ z.cps[i]? = some c ∧ ys[i]? = some y, ?_, fun F2 H2 s f => sqt_same f.sub (sqt_same s h3), fun i F2 H2 v H3 hi s f y => ?_⟩
          · rw [ll]
            refine ⟨fun i H hi q => ⟨by omega, ys, ys[i]'(by omega), q, List.getElem?_eq_getElem _⟩, fun H q => ⟨ys, q, by omega, by omega, by omega⟩, fun i H v H' hi q y => ?_⟩
            obtain ⟨T, c, y, h1, h2, h3, h4, h5⟩ := y
            exact ⟨T, c, y, h1, h2, h3, h4, h5 ys q⟩
          · obtain ⟨T, c, y, rfl, hT, rfl, hc, hy⟩ := y
            have xx := Ext.new f (o := .tup [.str ⟨#[c]⟩, y]) hT
            obtain ⟨d, hd, rd⟩ := h4.get' hy
            refine ⟨_, .tuple [.str ⟨#[c]⟩, d], xx, ?_, .tup (.of upd_same) (.cons (.str _) (.cons ((rd.mono s).mono xx.ff) .nil))⟩
            unfold prD2
            rw [List.getElem?_map]
            have zz : ((signs z).zip es)[i]? = some (.str ⟨#[c]⟩, d) := by
              rw [List.getElem?_zip_eq_some]
              exact ⟨by rw [signs_get, hc]; rfl, hd⟩
            rw [zz]; rfl
  · exact hq.elim
/-- a constant of the module -/
theorem de_globD {x : Str} {a : Addr} {d : PyData} (hm : X.mg x = some (.ref a)) (hv : ∀ F, DV X.K F (.ref a) d) (hg : Gl X x := by rfl) (hd : (x == ("__debug__" : Str)) = false := by decide) : DE X (.Name x pos) (dK d) :=
  de_const (pe_glob (v := .ref a) hg hm rfl hd) hv
def ConstD (K : PySem.W.Frag) (mg : Str → Option Value) (x : Str) (d : PyData) : Prop := ∃ a, mg x = some (.ref a) ∧ ∀ F, DV K F (.ref a) d
theorem de_cD {x : Str} {d : PyData} (h : ConstD X.K X.mg x d) (hg : Gl X x := by rfl) (hd : (x == ("__debug__" : Str)) = false := by decide) : DE X (.Name x pos) (dK d) :=
  let ⟨_, h1, h2⟩ := h
  de_globD h1 h2 hg hd
/-- C.get(e), C a dict of the module -/
def dGetC (kvs : List (Str × Str)) (t : DT) : DT := fun ρ Q => t ρ fun d => match d with | .str k => Q (((DLS.lookC kvs k).map PyData.str).getD .none) | _ => False
theorem de_getC {x : Str} {a : Addr} {kvs : List (Str × Str)} (D : DLS.DicC X.K X.w a kvs) (hm : X.mg x = some (.ref a)) (he : DE X e t) (m : M1 X (.Name x p) "get" apos e cpos := by exact ⟨rfl, rfl, rfl, rfl⟩) (hg : Gl X x := by rfl) (hd : (x == ("__debug__" : Str)) = false := by decide) :
    DE X (.Call (.Attribute (.Name x p) "get" apos) [e] [] cpos) (dGetC kvs t) := by
  refine PE.wk (DLS.pe_getC D hm he m hg hd) fun σ H Q ⟨p, H0, F, ρ, Qd, f, r, q, k⟩ => ?_
  refine ⟨p, H0, F, ρ, _, f, r, q, fun d v F' H' x hv hq => ?_⟩
  split at hq
  · cases hv
    refine ⟨_, rfl, k _ _ F' H' x ?_ hq⟩
    cases DLS.lookC kvs _ with
    | none => exact .non
    | some y => exact .str y
  · exact hq.elim
def ConstC (K : PySem.W.Frag) (mg : Str → Option Value) (w : World) (x : Str) (kvs : List (Str × Str)) : Prop := ∃ a, mg x = some (.ref a) ∧ DLS.DicC K w a kvs
theorem de_cC {x : Str} {kvs : List (Str × Str)} (h : ConstC X.K X.mg X.w x kvs) (he : DE X e t) (m : M1 X (.Name x p) "get" apos e cpos := by exact ⟨rfl, rfl, rfl, rfl⟩) (hg : Gl X x := by rfl) (hd : (x == ("__debug__" : Str)) = false := by decide) :
    DE X (.Call (.Attribute (.Name x p) "get" apos) [e] [] cpos) (dGetC kvs t) :=
  let ⟨_, h1, h2⟩ := h
  de_getC h2 h1 he m hg hd
def dIndexT (t : DT) : DT := fun ρ Q => t ρ fun d => match d with | .list ds => ∃ bs j, boolsOf ds = some bs ∧ bs[j]? = some true ∧ (∀ m, m < j → bs[m]? = some false) ∧ Q (.int (j : Nat)) | _ => False
theorem bools_vs {K : PySem.W.Frag} {F : Hp} : ∀ {vs : List V} {ds : List PyData} {bs : List Bool}, DVs K F vs ds → boolsOf ds = some bs → vs = bs.map V.bl
  | _, [], bs, .nil, h => by cases h; rfl
  | _, d :: ds, bs, .cons r t, h => by
    cases d with
    | bool b =>
      simp only [boolsOf, Option.map_eq_some_iff] at h
      obtain ⟨cs, h1, rfl⟩ := h
      cases r
      rw [bools_vs t h1]; rfl
    | _ => cases h
theorem de_indexT {q : Pos} (hl : DE X l t) (hbase : attributeBase l "index" X.env (eval l X.env) = eval l X.env := by rfl) (hline : (apos.endLine == cpos.line) = true := by rfl) (hs : starEach [.Constant (.bool true) k q] X.env = [(false, eval (.Constant (.bool true) k q) X.env)] := by rfl) :
    DE X (.Call (.Attribute l "index" apos) [.Constant (.bool true) k q] [] cpos) (dIndexT t) := by
  refine PE.wk (pe_bm PySem.F.plainAttrs_list PySem.F.slot_list_index PySem.F.type_list_index mt_index hl (pa_cons pe_bl pa_nil) hbase (by rfl) hline) fun σ H Q ⟨p, H0, F, ρ, Qd, f, r, q, k⟩ => ?_
  refine ⟨p, H0, F, ρ, _, f, r, q, fun d v F' H' x hv hq => ?_⟩
  split at hq
  · obtain ⟨bs, j, hb, hj, hm, h⟩ := hq
    cases hv with
    | @lst a xs _ h1 h2 =>
      have e := bools_vs h2 hb
      subst e
      have h1' := sql_same x.fh h1
      refine ⟨.inl ⟨rfl, _, h1'⟩, a, _, .bl true, j, .bl true, rfl, rfl, h1', rfl, ?_, ?_, rfl, fun m z hlt hz => ?_, k _ _ F' H' x (.int _) h⟩
      · rw [List.all_map]; exact List.all_eq_true.mpr fun b _ => rfl
      · rw [List.getElem?_map, hj]; rfl
      · rw [List.getElem?_map, hm m hlt] at hz
        cases hz
        rfl
  · exact hq.elim
end
end DL
namespace DL
open PySem PySem.Spec PyProof.Rows L2
/-- a def that is never come to -/
theorem good_never {P : Program} {w : World} {K : PySem.W.Frag} {mg : Str → Option Value} {base : Heap} {x : String} {st : Stmt} {k : Nat} {ps : List Str} (h : At K mg x st)
    (hbd : ∀ (kV doc pm : Value) (an : Option Addr) (cdv ct : Value) (us : List Value), us.length = ps.length → bindArgs (PySem.W.fnOf x x (defArgs st) (defBody st) (defScope st) .none kV doc pm an cdv ct) ⟨us, []⟩ = pure (ps.zip us)) :
    Good P w K mg base x st k ps fun _ _ => False := by
  obtain ⟨a, fd, hm, F⟩ := h
  exact ⟨a, fd, hm, F, F.binds hbd, ⟨fun vs H Q E ⟨p, Fr, as, Qd, f, ha, hd, c⟩ => hd.elim, fun A outer s H args us vs Q E hr e0 hb r ⟨p, Fr, as, Qd, f, ha, hd, c⟩ => hd.elim⟩⟩
end DL


namespace DL
open PySem PySem.Spec PyProof.Rows L2
open PySem.W (AllAlike Sortable EachIs dataLe)

/-! sorted(x) as a new list; target = y.pop(); for z in y: z.append(None) -/
section
variable {X : Cx} {pos p pc pa pn pb pt : Pos} {e : Expr} {u : DL_}
def oSorted (u : DL_) : DOT := fun ρ Q => u ρ fun ds => match ds with
  | [.list xs] => SortOk xs ∧ Q (sortD xs)
  | [.tuple xs] => SortOk xs ∧ Q (sortD xs)
  | _ => False
theorem do_sorted (hu : X.A.units + 64 < cLine) (hm : X.mg "sorted" = none) (ha : DLs X [e] u) (hg : Gl X "sorted" := by rfl) (hv : bootBuiltins "sorted" = some (.builtin "sorted") := by decide +kernel)
    (he : starEach [e] X.env = (false, eval e X.env) :: starEach [] X.env := by rfl) (hpl : (backTo pos (starEach [] X.env)).any (·.1) = false := by rfl) : DO X (.Call (.Name "sorted" p) [e] [] pos) (oSorted u) := by
  refine PE.wk (pe_callB (cr_sortA hu) hg hm hv ha (by decide) (by decide) he hpl) fun σ H Q ⟨p, H0, F, ρ, Qd, f, r, q, k⟩ => ?_
  refine ⟨p, H0, F, ρ, _, f, r, q, fun ds vs F' H' x hv hq => ?_⟩
  have f' := x.fit f
  have go : ∀ {a : Addr} {ys : List V} {xs : List PyData}, (SqL X.K F' a ys ∨ SqT X.K F' a ys) → DVs X.K F' ys xs → SortOk xs → Qd (sortD xs) → rSortA X.K [V.ref a] H' Q := by
    intro a ys xs hs h2 ok hq
    obtain ⟨o1, o2, o3, o4, o5⟩ := ok
    refine ⟨a, ys, xs, fun v d => DV X.K F' v d, rfl, hs.imp (sql_same x.fh) (sqt_same x.fh), (h2.mono x.fh).dp o1, h2.each, o2, o3, by rw [sl_eq]; exact o4, o5, fun zs l hz hl => ?_⟩
    exact k (sortD xs) (.ref l) F' _ (x.trans f (Ext.junk f' hl)) ⟨l, zs, rfl, (x.new0 f hl).1, f'.none hl, (x.new0 f hl).2, upd_same, DVs.of_each hz⟩ hq
  split at hq
  · cases hv with
    | cons h t => cases t; cases h with | lst h1 h2 => exact go (.inl h1) h2 hq.1 hq.2
  · cases hv with
    | cons h t => cases t; cases h with | tup h1 h2 => exact go (.inr h1) h2 hq.1 hq.2
  · exact hq.elim
def dPopTo (i : Nat) (g : DGT) : DS := fun D ρ => match ρ[i]? with
  | some (.own ds) => match ds.getLast? with
    | some z => noTmp ρ = true ∧ g z (ρ.set i (.own ds.dropLast)) D.nx
    | none => False
  | _ => False
theorem ds_popTo (i : Nat) {y : Str} {vs : List Nat} {g : DGT} {tg : Expr} (hg : DG X tg vs g) (hi : X.N[i]? = some y := by rfl)
    (hv : Vis X.env.scope y := by first | exact Or.inl rfl | exact Or.inr (Or.inl rfl) | exact Or.inr (Or.inr rfl)) (hd : (y == ("__debug__" : Str)) = false := by decide) (hcd : (y == ("__classdict__" : Str)) = false := by decide)
    (hbase : attributeBase (.Name y pn) "pop" X.env (eval (.Name y pn) X.env) = eval (.Name y pn) X.env := by rfl) (hline : (pa.endLine == pc.line) = true := by rfl)
    (hs : swapsWithSole [tg] (.Call (.Attribute (.Name y pn) "pop" pa) [] [] pc) pos.line X.env = pure false := by rfl) (hw : swappedStores [tg] (.Call (.Attribute (.Name y pn) "pop" pa) [] [] pc) X.env = pure none := by rfl)
    (h1 : (assignEach [tg] X.env).map (·.2) = [assign tg X.env] := by rfl) : DP X (.Assign [tg] (.Call (.Attribute (.Name y pn) "pop" pa) [] [] pc) pos) (dPopTo i g) := by
  refine PS.wk (ps_asg (pe_bm0 PySem.F.plainAttrs_list PySem.F.slot_list_pop PySem.F.type_list_pop mt_pop (pe_var hi hv hd hcd) hbase hline) hg hs hw h1) fun D σ H ⟨p, H0, F0, F, ρ, Dd, f, x, r, q, k⟩ => ?_
  unfold dPopTo at q
  split at q
  · rename_i ds ei
    split at q
    · rename_i z ez
      obtain ⟨a', vs, es, ea, h0, n, hp, eh, rv⟩ := own_at r ei
      obtain ⟨nt, q⟩ := q
      obtain ⟨y', ey, ry⟩ := rv.get (by rw [List.getLast?_eq_getElem?] at ez; exact ez)
      refine ⟨.ref a', es, .inl ⟨rfl, vs, .of eh⟩, a', vs, y', rfl, rfl, eh, by rw [rv.length]; exact ey, ?_⟩
      have x1 := x.write (o := .lst vs.dropLast) h0 n hp
      have r1 := r.write (vs' := vs.dropLast) (ds' := ds.dropLast) ei ea rv.dropLast nt
      have f1 := x1.fit f
      exact ⟨p, H0, F, _, z, _, f1, r1, ry, q, fun σ' ρ' r' _ q' => k.nx σ' F _ ρ' (Same.refl _) x1 r' q'⟩
    · exact q.elim
  · exact q.elim
end

/-! ### for z in y: z.append(None) -/
def spoilOk : Bool × PyData → Bool
  | (true, .list ds) => decide (ds.length < 1000)
  | _ => false
section
variable {k : Kw} {p : Option Addr} {H0 F H : Hp} {σ : Sg} {ρ : Rho}
theorem NIs.getV {vs : List V} {its : List (Bool × PyData)} {as : List Addr} (h : NIs k p H0 F H vs its as) : (∀ it ∈ its, spoilOk it = true) → vs.length = its.length ∧ ∀ (m : Nat) (v : V), vs[m]? = some v → ∃ a ws, v = .ref a ∧ a ∈ as ∧ (H0 a = none ∧ F a = none ∧ p ≠ some a ∧ H a = some (.lst ws)) ∧ ws.length < 1000 := by
  induction h with
  | nil => exact fun _ => ⟨rfl, fun m v e => by cases e⟩
  | dat _ _ ih =>
    intro q
    have := q _ (List.mem_cons_self ..)
    cases this
  | own h r _ ih =>
    intro q
    obtain ⟨l, g⟩ := ih fun it hit => q it (List.mem_cons_of_mem _ hit)
    refine ⟨by simp [l], fun m v e => ?_⟩
    cases m with
    | zero =>
      cases e
      have := q _ (List.mem_cons_self ..)
      simp only [spoilOk, decide_eq_true_eq] at this
      exact ⟨_, _, rfl, List.mem_cons_self .., h, by rw [r.length]; exact this⟩
    | succ m =>
      obtain ⟨a, ws, e1, e2, e3, e4⟩ := g m v (by simpa using e)
      exact ⟨a, ws, e1, List.mem_cons_of_mem _ e2, e3, e4⟩
theorem Rep.forget (r : Rep k p H0 F H σ ρ) (i : Nat) : Rep k p H0 F H σ (ρ.set i .emp) := by
  refine ⟨by rw [List.length_set]; exact r.len, fun l sl el => ?_, fun l m ds es b e1 e2 => ?_⟩
  · by_cases hl : i = l
    · subst hl
      have hl' : i < ρ.length := by
        have := (List.getElem?_eq_some_iff.mp el).1
        simpa using this
      rw [List.getElem?_set_self hl'] at el
      cases el
      trivial
    · rw [List.getElem?_set_ne hl] at el
      exact r.all l sl el
  · have get : ∀ {l : Nat} {ds : List PyData}, (ρ.set i Sl.emp)[l]? = some (.own ds) → ρ[l]? = some (.own ds) := fun {l ds} e => by
      by_cases hl : i = l
      · subst hl
        have hl' : i < ρ.length := by
          have := (List.getElem?_eq_some_iff.mp e).1
          simpa using this
        rw [List.getElem?_set_self hl'] at e
        cases e
      · rw [List.getElem?_set_ne hl] at e
        exact e
    exact r.own l m ds es b (get e1) (get e2)
theorem Rep.writeB (r : Rep k p H0 F H σ ρ) (hb : ∀ s ∈ ρ, blurS s = s) {a : Addr} {ws ws' : List V} (h : H a = some (.lst ws)) : Rep k p H0 F (upd H a (.lst ws')) σ ρ := by
  refine ⟨r.len, fun i s e => ?_, r.own⟩
  have h' := r.all i s e
  have b := hb s (List.mem_of_getElem? e)
  cases s with
  | own ds => cases b
  | dic ds => cases b
  | tmp ds => cases b
  | rdic ds => cases b
  | mdic c ds => cases b
  | sett S =>
    obtain ⟨c, L, eb, bp, bh, br⟩ := h'
    have nab : c ≠ a := fun z => by rw [z, h] at bh; cases bh
    exact ⟨c, L, eb, bp, by rw [upd_ne nab]; exact bh, br⟩
  | _ => exact h'
theorem blur_blur (s : Sl) : blurS (blurS s) = blurS s := by cases s <;> rfl
theorem blur_mem (ρ : Rho) (i j : Nat) : ∀ s ∈ ((ρ.map blurS).set i .emp).set j .emp, blurS s = s := by
  intro s hs
  rcases List.mem_or_eq_of_mem_set hs with h | rfl
  · rcases List.mem_or_eq_of_mem_set h with h | rfl
    · obtain ⟨z, _, rfl⟩ := List.mem_map.mp h
      exact blur_blur z
    · rfl
  · rfl
end
section
variable {X : Cx} {pos pos2 pc pa pn pz pz2 pk : Pos} {kn : Nat}
def dSpoilAll (i j : Nat) : DS := fun D ρ => match ρ[i]? with
  | some (.tmp its) => (its.length < 1000 ∧ (its.all spoilOk) = true ∧ i ≠ j ∧ j < ρ.length) ∧ D.nx (((ρ.map blurS).set i .emp).set j .emp)
  | _ => False
theorem ds_spoilAll (i j : Nat) {y z : Str} (hp : PassesOwn (model X.prog X.w) X.A X.env X.xe) (hc : X.calm = true) (hN : X.N.Nodup)
    (he : DE X (.Constant .none kn pk) (dK .none))
    (hi : X.N[i]? = some y := by rfl) (hv : Vis X.env.scope y := by first | exact Or.inl rfl | exact Or.inr (Or.inl rfl) | exact Or.inr (Or.inr rfl)) (hd : (y == ("__debug__" : Str)) = false := by decide) (hcd : (y == ("__classdict__" : Str)) = false := by decide)
    (hj : X.N[j]? = some z := by rfl) (hvz : Vis X.env.scope z := by first | exact Or.inl rfl | exact Or.inr (Or.inl rfl) | exact Or.inr (Or.inr rfl)) (hdz : (z == ("__debug__" : Str)) = false := by decide) (hcdz : (z == ("__classdict__" : Str)) = false := by decide)
    (hx : Loc X.env.scope z := by first | exact Or.inl rfl | exact Or.inr rfl) (hf : X.fn z = true ∨ X.env.scope.names.lookup z = some .local := by first | exact .inl rfl | exact .inr rfl)
    (hbase : attributeBase (.Name z pz2) "append" X.env (eval (.Name z pz2) X.env) = eval (.Name z pz2) X.env := by rfl)
    (hfew : ((backTo pc (starEach [.Constant .none kn pk] X.env)).all (fun x => !x.1) && (backToKw pc (keywordEach [] X.env)).all (fun x => x.1.isSome)
      && decide (([.Constant .none kn pk] : List Expr).length + ([] : List Keyword).length + (if ([] : List Keyword).isEmpty then 0 else 1) < 30)) = true := by rfl)
    (hline : (pa.endLine == pc.line) = true := by rfl) (hs : starEach [.Constant .none kn pk] X.env = (false, eval (.Constant .none kn pk) X.env) :: starEach [] X.env := by rfl) (hplain : (backTo pc (starEach [] X.env)).any (·.1) = false := by rfl)
    (hsw : swapsWith (.Call (.Attribute (.Name z pz2) "append" pa) [.Constant .none kn pk] [] pc) none pos2.line X.env = pure false := by rfl)
    (hss : ∀ x, foldedSetIterable (.Name y pn) X.env x = pure x := by intro _; rfl) :
    DP X (.For (.Name z pz) (.Name y pn) [.Expr (.Call (.Attribute (.Name z pz2) "append" pa) [.Constant .none kn pk] [] pc) pos2] [] pos) (dSpoilAll i j) := by
  refine PS.wk (ps_for hp hc (pi_list (pe_var hi hv hd hcd)) (pg_name hN hj hx hf)
    (pss_one (ps_expr (pe_bm PySem.F.plainAttrs_list PySem.F.slot_list_append PySem.F.type_list_append mt_append (pe_var hj hvz hdz hcdz) (pa_cons he pa_nil hs) hbase hfew hline hs hplain) hsw)) hss) fun D σ H ⟨p, H0, F0, F, ρ, Dd, f, x, r, q, k⟩ => ?_
  unfold dSpoilAll at q
  split at q
  · rename_i its ei
    obtain ⟨⟨lt, al, nij, jl⟩, q⟩ := q
    obtain ⟨t, vs, as, et, ⟨t0, tf, tp, th⟩, v2, nd⟩ := r.all i _ ei
    obtain ⟨lv, gv⟩ := v2.getV (List.all_eq_true.mp al)
    refine ⟨.ref t, slv_of et, t, rfl, ⟨vs, .of th⟩, ?_⟩
    refine for_it (walk_list (xs := vs)) (fun n σ' H' => ∃ F', Same F F' ∧ Ext p F0 H0 F' H' ∧ Rep (kw X) p H0 F' H' σ' (((ρ.map blurS).set i .emp).set j .emp) ∧ (F' t = none ∧ H' t = some (.lst vs)) ∧
      ∀ (m : Nat) (v : V), vs[m]? = some v → ∃ a ws, v = .ref a ∧ a ≠ t ∧ (H0 a = none ∧ F' a = none ∧ p ≠ some a ∧ H' a = some (.lst ws)) ∧ ws.length < 1000 + n) ⟨F, Same.refl _, x, (r.blur.forget i).forget j, ⟨tf, th⟩, fun m v e => ?_⟩ ?_ ?_ ?_
    · obtain ⟨a, ws, e1, ha, h, l⟩ := gv m v e
      exact ⟨a, ws, e1, fun z => (List.nodup_cons.mp nd).1 (z ▸ ha), h, l⟩
    · rintro n σ' H' _ ⟨F', s, x', r', ⟨t1, t2⟩, g⟩
      exact .of t2
    · rintro n v σ' H2 H3 hn ⟨F', s, x', r', ⟨t1, t2⟩, g⟩ ⟨rfl, hv'⟩
      obtain ⟨a, ws, rfl, nat_, ⟨a0, af, ap, ah⟩, l⟩ := g n v hv'
      have hjl : j < σ'.length := by rw [r'.len]; simpa using jl
      have r1 : Rep (kw X) p H0 F' H3 (σ'.set j (some (.ref a))) ((((ρ.map blurS).set i .emp).set j .emp).set j .emp) := r'.set j (some (.ref a)) (sl := .emp) trivial (fun ds z => by cases z)
      rw [List.set_set] at r1
      refine ⟨.ref a, List.getElem?_set_self hjl, .inl ⟨rfl, ws, .of ah⟩, p, H0, F', _, fun _ => True, x'.fit f, r1, trivial, fun d v F2 H2 y hv2 _ => ?_⟩
      have ah' := y.hh a _ ap ah
      have af' := y.fr a _ ah af
      refine ⟨a, ws, v, rfl, rfl, ah', by rw [sl_eq]; omega, ?_⟩
      have x2 := (x'.trans f y).write (o := .lst (ws ++ [v])) a0 af' ap
      refine ⟨F2, s.trans y.ff, x2, (r1.ext y).writeB (blur_mem ρ i j) ah', ⟨y.fr t _ t2 t1, by rw [upd_ne nat_.symm]; exact y.hh t _ tp t2⟩, fun m v' e => ?_⟩
      obtain ⟨b, us, rfl, nb, ⟨b0, bf, bp, bh⟩, lb⟩ := g m v' e
      by_cases ab : b = a
      · subst ab
        exact ⟨b, ws ++ [v], rfl, nb, ⟨b0, y.fr b _ bh bf, bp, upd_same⟩, by simp; omega⟩
      · exact ⟨b, us, rfl, nb, ⟨b0, y.fr b _ bh bf, bp, by rw [upd_ne ab]; exact y.hh b _ bp bh⟩, by omega⟩
    · rintro σ' H' ⟨F', s, x', r', _, _⟩
      exact k.nx σ' F' H' _ s x' r' q
  · exact q.elim
end
end DL


namespace DL
open PySem PySem.Spec PyProof.Rows L2
/-! x is True, x is not False, x a truth value -/
section
variable {X : Cx}
theorem op_isB : OpR X (compareOp .Is) (fun x y H Q => ∃ m n, x = .bl m ∧ y = .bl n ∧ Q (.bl (decide (m = n))) H) := by
  intro pins s σ H x y v u Q I rx ry h
  obtain ⟨m, n, rfl, rfl, q⟩ := h
  cases (show v = Value.bool m from rx)
  cases (show u = Value.bool n from ry)
  by_cases e : m = n
  · subst e
    exact wpAny_is_self rfl ⟨.bl true, H, I, rfl, by simpa using q⟩
  · exact wpAny_is_other rfl (fun z => e (Value.bool.inj z)) ⟨.bl false, H, I, rfl, by simpa [e] using q⟩
theorem op_isNotB : OpR X (compareOp .IsNot) (fun x y H Q => ∃ m n, x = .bl m ∧ y = .bl n ∧ Q (.bl (!decide (m = n))) H) := by
  intro pins s σ H x y v u Q I rx ry h
  obtain ⟨m, n, rfl, rfl, q⟩ := h
  cases (show v = Value.bool m from rx)
  cases (show u = Value.bool n from ry)
  by_cases e : m = n
  · subst e
    exact wpAny_isNot_self rfl ⟨.bl false, H, I, rfl, by simpa using q⟩
  · exact wpAny_isNot_other rfl (fun z => e (Value.bool.inj z)) ⟨.bl true, H, I, rfl, by simpa [e] using q⟩
def gIsB (neg : Bool) : G2 := fun d e Q => match d, e with | .bool a, .bool b => Q (.bool (if neg then !decide (a = b) else decide (a = b))) | _, _ => False
theorem od_isB : OpD X (compareOp .Is) (gIsB false) := by
  refine ⟨_, op_isB, fun p F H x y d e Qd Q f rx ry hg q => ?_⟩
  unfold gIsB at hg
  split at hg
  · cases rx
    cases ry
    exact ⟨_, _, rfl, rfl, q _ _ F H (Ext.refl f.sub) (.bl _) hg⟩
  · exact hg.elim
theorem od_isNotB : OpD X (compareOp .IsNot) (gIsB true) := by
  refine ⟨_, op_isNotB, fun p F H x y d e Qd Q f rx ry hg q => ?_⟩
  unfold gIsB at hg
  split at hg
  · cases rx
    cases ry
    exact ⟨_, _, rfl, rfl, q _ _ F H (Ext.refl f.sub) (.bl _) hg⟩
  · exact hg.elim
end
end DL


/-! Dicts that a def is handed, to read or to write; y.get(k); y[a], y[b] = c, d; dicts that come to rest. -/
namespace DL
open PySem PySem.Spec PyProof.Rows L2
section
variable {X : Cx} {o e : Expr} {to ty : TE} {apos cpos : Pos}
def tGetT (X : Cx) (to ty : TE) : TE := fun σ H Q => to σ H fun x H1 => ∃ a L, x = .ref a ∧ IsDT X H1 a L ∧ ty σ H1 fun y H2 => ∃ b k L2, y = .ref b ∧ IsDT X H2 a L2 ∧ SqT X.K H2 b (k.map V.int) ∧ Q ((getT L2 k).getD .non) H2
theorem pe_getT (hu : X.A.units + 1 < cLine) (ho : PE X o to) (he : PE X e ty) (m : M1 X o "get" apos e cpos) : PE X (.Call (.Attribute o "get" apos) [e] [] cpos) (tGetT X to ty) := by
  refine ⟨fun pins s σ H Q I h => ?_⟩
  refine wpAny_Call_method m.base m.few m.line PySem.F.plainAttrs_dict PySem.F.slot_dict_get PySem.F.type_dict_get (thn (ho.run pins s σ H _ I h) fun u s1 ⟨x, H1, I1, rx, a, L, ex, d1, q1⟩ => ?_)
  subst ex
  obtain rfl : u = Value.ref a := rx
  obtain ⟨len, ns, xs, rel, dd⟩ := I1.dicT d1
  refine ⟨dd.typeIs, fun b q => ?_, ?_⟩
  · cases q
    obtain ⟨ob, es, ep, hob, xd, _⟩ := dd
    exact ⟨ob, hob, xd.2.1⟩
  rw [m.trees]
  refine wpAny_dict_get1_heap (knd := tupleKind (intKind X.prog X.w)) (tupleKind_room_in1 hu) ns (thn (he.run pins s1 σ H1 _ I1 q1) fun iv s2 ⟨y, H2, I2, ry, b, k, L2, ey, d2, hb, q2⟩ => ?_)
  subst ey
  cases ry
  obtain ⟨len2, ns2, xs2, rel2, dd2⟩ := I2.dicT d2
  refine ⟨b, k, xs2, rfl, I2.isT hb, dd2, ?_⟩
  have rv := rel2.val k
  cases eg : getT L2 k with
  | none =>
    rw [eg] at rv q2
    cases eh : (atKey xs2 k).map (·.2) with
    | none => exact ⟨.non, H2, I2.tok _, rfl, q2⟩
    | some w' => rw [eh] at rv; exact rv.elim
  | some v =>
    rw [eg] at rv q2
    cases eh : (atKey xs2 k).map (·.2) with
    | none => rw [eh] at rv; exact rv.elim
    | some w' => rw [eh] at rv; exact ⟨v, H2, I2.tok _, rv, q2⟩
end
def dicAt : Option Sl → Option (List (List Int × PyData))
  | some (.dic kds) => some kds
  | some (.rdic kds) => some kds
  | some (.mdic _ kds) => some kds
  | _ => none
theorem look_val {K : PySem.W.Frag} {F : Hp} {z : List Int} : ∀ {L : DL3} {ds : List PyData}, DVs K F (L.map fun p => p.2.2) ds → (∃ v c, getT L z = some v ∧ lookT ((L.map fun q => q.1).zip ds) z = some c ∧ DV K F v c) ∨ (getT L z = none ∧ lookT ((L.map fun q => q.1).zip ds) z = none)
  | [], ds, r => .inr ⟨rfl, rfl⟩
  | p :: L, ds, r => by
    cases r with
    | @cons _ _ d ds' h1 h2 =>
      rw [List.map_cons, List.zip_cons_cons, lookT_cons, getT_cons]
      by_cases e : p.1 = z
      · rw [if_pos e, if_pos e]; exact .inl ⟨_, _, rfl, rfl, h1⟩
      · rw [if_neg e, if_neg e]; exact look_val h2
theorem Rep.dicAt {k : Kw} {p : Option Addr} {H0 F H : Hp} {σ : Sg} {ρ : Rho} (r : Rep k p H0 F H σ ρ) {i : Nat} {kds : List (List Int × PyData)} (e : DL.dicAt ρ[i]? = some kds) :
    ∃ (a : Addr) (L : DL3) (ds : List PyData), slv σ i = some (.ref a) ∧ H a = some (DicTO a L) ∧ (∀ q ∈ L, SqT k.K F q.2.1 (q.1.map V.int)) ∧ DVs k.K F (L.map fun q => q.2.2) ds ∧ kds = (L.map fun q => q.1).zip ds := by
  unfold DL.dicAt at e
  split at e
  · rename_i kd es
    cases e
    obtain ⟨a, L, ds, ea, ⟨_, _, _, ha⟩, hL, hS, hz⟩ := r.all i _ es
    exact ⟨a, L, ds, ea, ha, hL, hS, hz⟩
  · rename_i kd es
    cases e
    obtain ⟨a, L, ds, ea, ⟨_, _, _, ha⟩, hL, hS, hz⟩ := r.all i _ es
    exact ⟨a, L, ds, ea, ha, hL, hS, hz⟩
  · rename_i a kd es
    cases e
    obtain ⟨L, ds, ea, ⟨_, _, _, ha⟩, hL, hS, hz⟩ := r.all i _ es
    exact ⟨a, L, ds, ea, ha, hL, hS, hz⟩
  · cases e
section
variable {X : Cx} {pos p1 p2 apos cpos : Pos} {e : Expr} {te : DT}
/-- y.get(e) -/
def dGetDic (i : Nat) (t : DT) : DT := fun ρ Q => ∃ kds, dicAt ρ[i]? = some kds ∧ t ρ fun d => ∃ z, d = tupI z ∧ Q ((lookT kds z).getD .none)
theorem de_getDic (i : Nat) {y : Str} (hu : X.A.units + 1 < cLine) (he : DE X e te) (m : M1 X (.Name y p1) "get" apos e cpos := by exact ⟨rfl, rfl, rfl, rfl⟩) (hi : X.N[i]? = some y := by rfl) (hv : Vis X.env.scope y := by first | exact Or.inl rfl | exact Or.inr (Or.inl rfl) | exact Or.inr (Or.inr rfl))
    (hd : (y == ("__debug__" : Str)) = false := by decide) (hcd : (y == ("__classdict__" : Str)) = false := by decide) : DE X (.Call (.Attribute (.Name y p1) "get" apos) [e] [] cpos) (dGetDic i te) := by
  refine PE.wk (pe_getT hu (pe_var hi hv hd hcd) he m) fun σ H Q ⟨p, H0, F, ρ, Qd, f, r, ⟨kds, es, q⟩, k⟩ => ?_
  obtain ⟨a, L, ds, ea, ha, hL, hS, hz⟩ := r.dicAt es
  refine ⟨.ref a, slv_of ea, a, L, rfl, ⟨ha, fun q hq => sqt_same f.sub (hL q hq)⟩, p, H0, F, ρ, _, f, r, q, fun d v F' H' x hv ⟨z, ed, hq⟩ => ?_⟩
  subst ed
  obtain ⟨a', L', ds', ea', ha', hL', hS', hz'⟩ := (r.ext x).dicAt es
  rw [ea] at ea'
  cases ea'
  cases hv with
  | @tup b xs _ h1 h2 =>
    have ex := h2.ints
    subst ex
    refine ⟨b, z, L', rfl, ⟨ha', fun q hq => sqt_same (x.fit f).sub (hL' q hq)⟩, sqt_same x.fh h1, ?_⟩
    rcases look_val (z := z) hS' with ⟨v, c, e1, e2, rv⟩ | ⟨e1, e2⟩
    · rw [e1]
      rw [hz', e2] at hq
      exact k _ _ F' H' x rv hq
    · rw [e1]
      rw [hz', e2] at hq
      exact k _ _ F' H' x .non hq
/-- y[e] -/
def dIxDic (i : Nat) (t : DT) : DT := fun ρ Q => ∃ kds, dicAt ρ[i]? = some kds ∧ t ρ fun d => ∃ z c, d = tupI z ∧ lookT kds z = some c ∧ Q c
theorem de_ixDic (i : Nat) {y : Str} (hu : X.A.units + 1 < cLine) (he : DE X e te) (hs : NoSl e := by exact fun _ _ => rfl) (hi : X.N[i]? = some y := by rfl) (hv : Vis X.env.scope y := by first | exact Or.inl rfl | exact Or.inr (Or.inl rfl) | exact Or.inr (Or.inr rfl))
    (hd : (y == ("__debug__" : Str)) = false := by decide) (hcd : (y == ("__classdict__" : Str)) = false := by decide) : DE X (.Subscript (.Name y p1) e pos) (dIxDic i te) := by
  refine PE.wk (pe_dgetT hu (pe_var hi hv hd hcd) he hs) fun σ H Q ⟨p, H0, F, ρ, Qd, f, r, ⟨kds, es, q⟩, k⟩ => ?_
  obtain ⟨a, L, ds, ea, ha, hL, hS, hz⟩ := r.dicAt es
  refine ⟨.ref a, slv_of ea, p, H0, F, ρ, _, f, r, q, fun d v F' H' x hv ⟨z, c, ed, hl, hq⟩ => ?_⟩
  subst ed
  obtain ⟨a', L', ds', ea', ha', hL', hS', hz'⟩ := (r.ext x).dicAt es
  rw [ea] at ea'
  cases ea'
  cases hv with
  | @tup b xs _ h1 h2 =>
    have ex := h2.ints
    subst ex
    rcases look_val (z := z) hS' with ⟨v, c', e1, e2, rv⟩ | ⟨e1, e2⟩
    · rw [hz', e2] at hl
      cases hl
      exact ⟨a, b, z, L', v, rfl, rfl, ⟨ha', fun q hq => sqt_same (x.fit f).sub (hL' q hq)⟩, sqt_same x.fh h1, e1, k _ _ F' H' x rv hq⟩
    · rw [hz', e2] at hl
      cases hl
/-- e not in y, y a dict that is handed in -/
def dInRdic (i : Nat) (neg : Bool) (t : DT) : DT := fun ρ Q => ∃ kds, dicAt ρ[i]? = some kds ∧ t ρ fun d => ∃ z, d = tupI z ∧ Q (.bool (if neg then !(lookT kds z).isSome else (lookT kds z).isSome))
theorem inRdic_run {i : Nat} {neg : Bool} {y : Str} (hi : X.N[i]? = some y) {σ : Sg} {H : Hp} {Q : VK} (h : tD (kw X) (dInRdic i neg te) σ H Q) : tOp (rInDT X neg) (tD (kw X) te) (fun σ H Q => ∃ v, σ[i]? = some (some v) ∧ Q v H) σ H Q := by
  obtain ⟨p, H0, F, ρ, Qd, f, r, ⟨kds, es, q⟩, k⟩ := h
  refine ⟨p, H0, F, ρ, _, f, r, q, fun d v F' H' x hv ⟨z, ed, hq⟩ => ?_⟩
  subst ed
  obtain ⟨a, L, ds, ea, ha, hL, hS, hz⟩ := (r.ext x).dicAt es
  subst hz
  cases hv with
  | @tup b xs _ h1 h2 =>
    have ex := h2.ints
    subst ex
    rw [look_some hS] at hq
    exact ⟨.ref a, slv_of ea, a, b, z, L, rfl, rfl, ⟨ha, fun q hq => sqt_same (x.fit f).sub (hL q hq)⟩, sqt_same x.fh h1, k _ _ F' H' x (.bl _) hq⟩
theorem inRdic_test {i : Nat} {neg : Bool} {y : Str} (hi : X.N[i]? = some y) {σ : Sg} {H : Hp} {Q : Bool → Hp → Prop} (h : tDT (kw X) (dTr (dInRdic i neg te)) σ H Q) :
    tOp (rInDT X neg) (tD (kw X) te) (fun σ H Q => ∃ v, σ[i]? = some (some v) ∧ Q v H) σ H fun v H1 => ∃ b, v = .bl b ∧ Q b H1 := by
  obtain ⟨p, H0, F, ρ, Qd, f, r, q, k⟩ := h
  refine inRdic_run hi ⟨p, H0, F, ρ, _, f, r, q, fun d v F' H' x hv hq => ?_⟩
  cases d with
  | bool b => cases hv; exact ⟨b, rfl, k b F' H' x hq⟩
  | _ => exact hq.elim
theorem dc_inRdic (i : Nat) {y : Str} (hu : X.A.units + 1 < cLine) (he : DE X e te) (hi : X.N[i]? = some y := by rfl) (hv : Vis X.env.scope y := by first | exact Or.inl rfl | exact Or.inr (Or.inl rfl) | exact Or.inr (Or.inr rfl)) (hd : (y == ("__debug__" : Str)) = false := by decide)
    (hcd : (y == ("__classdict__" : Str)) = false := by decide) (hm : behindInMarks .In (.Name y p1) = false := by rfl) : DC X (.Compare e [.In] [.Name y p1] pos) (dTr (dInRdic i false te)) :=
  PT.wk (pt_cmpR (op_inDT hu) he (pe_var hi hv hd hcd) hm) fun σ H Q h => inRdic_test hi h
theorem dc_ninRdic (i : Nat) {y : Str} (hu : X.A.units + 1 < cLine) (he : DE X e te) (hi : X.N[i]? = some y := by rfl) (hv : Vis X.env.scope y := by first | exact Or.inl rfl | exact Or.inr (Or.inl rfl) | exact Or.inr (Or.inr rfl)) (hd : (y == ("__debug__" : Str)) = false := by decide)
    (hcd : (y == ("__classdict__" : Str)) = false := by decide) (hm : behindInMarks .NotIn (.Name y p1) = false := by rfl) : DC X (.Compare e [.NotIn] [.Name y p1] pos) (dTr (dInRdic i true te)) :=
  PT.wk (pt_cmpR (op_notInDT hu) he (pe_var hi hv hd hcd) hm) fun σ H Q h => inRdic_test hi h
end
end DL


/-! Dicts that come to rest; y[a], y[b] = c, d; defs that read or write a dict that they are handed. -/
namespace DL
open PySem PySem.Spec PyProof.Rows L2
/-! ### a dict comes to rest -/
theorem zip_dict {L : DL3} {ds : List PyData} : ((L.map fun q => q.1).zip ds).map (fun p => (tupI p.1, p.2)) = (L.map fun p => PyData.tuple (p.1.map PyData.int)).zip ds := by
  have : (L.map fun p => PyData.tuple (p.1.map PyData.int)) = (L.map fun q => q.1).map tupI := by rw [List.map_map]; rfl
  rw [this]
  generalize (L.map fun q => q.1) = ks
  induction ks generalizing ds with
  | nil => rfl
  | cons k ks ih =>
    cases ds with
    | nil => rfl
    | cons d ds => simp only [List.zip_cons_cons, List.map_cons, ih]
theorem Rep.restDic {k : Kw} {p : Option Addr} {H0 F H : Hp} {σ : Sg} {ρ : Rho} (r : Rep k p H0 F H σ ρ) {i : Nat} {kds : List (List Int × PyData)} (e : ρ[i]? = some (.dic kds)) (lo : lone ρ i = true) :
    ∃ (a : Addr) (L : DL3), (H0 a = none ∧ F a = none ∧ p ≠ some a ∧ H a = some (DicTO a L)) ∧ Rep k p H0 (upd F a (DicTO a L)) H σ (ρ.set i (.dat (dictD kds))) := by
  obtain ⟨a, L, ds, ea, h, hL, hS, hz⟩ := r.all i _ e
  have hi : i < ρ.length := (List.getElem?_eq_some_iff.mp e).1
  have sF : Same F (upd F a (DicTO a L)) := same_upd h.2.1
  refine ⟨a, L, h, ⟨by simp [r.len], fun j s q => ?_, fun j l es es' b e1 e2 e3 e4 => ?_⟩⟩
  · by_cases hj : i = j
    · subst hj
      rw [List.getElem?_set_self hi] at q
      cases q
      refine ⟨.ref a, ea, .dcT upd_same (fun q hq => sqt_same sF (hL q hq)) (hS.mono sF) ?_⟩
      rw [hz]
      exact zip_dict
    · rw [List.getElem?_set_ne hj] at q
      have hs := r.all j s q
      have pl : plainS s = true := by
        unfold lone at lo
        rw [List.all_eq_true] at lo
        exact lo s (List.mem_of_getElem? (i := j) (by rw [List.getElem?_set_ne hj]; exact q))
      cases s with
      | emp => trivial
      | dat d => obtain ⟨y, e, rr⟩ := hs; exact ⟨y, e, rr.mono sF⟩
      | own es =>
        obtain ⟨b, ws, eb, b0, bn, bp, bh, br⟩ := hs
        have nab : b ≠ a := fun z => by rw [z, h.2.2.2] at bh; cases bh
        exact ⟨b, ws, eb, b0, by rw [upd_ne nab]; exact bn, bp, bh, br.mono sF⟩
      | pot => exact hs
      | sett S => cases pl
      | dic d => cases pl
      | mdic b d => cases pl
      | tmp d1 => cases pl
      | rdic d =>
        obtain ⟨b, L2, ds2, eb, ⟨b0, bn, bp, bh⟩, br, bw, bz⟩ := hs
        have nab : b ≠ a := fun z => b0 (z ▸ h.1)
        exact ⟨b, L2, ds2, eb, ⟨b0, by rw [upd_ne nab]; exact bn, bp, bh⟩, fun q hq => sqt_same sF (br q hq), bw.mono sF, bz⟩
      | fact φ => exact fun F2 e => hs F2 (sF.trans e)
  · have at_ : ∀ {j : Nat} {es : List PyData}, (ρ.set i (.dat (dictD kds)))[j]? = some (.own es) → ρ[j]? = some (.own es) := fun {j es} q => by
      by_cases hj : i = j
      · subst hj
        rw [List.getElem?_set_self hi] at q
        cases q
      · rw [List.getElem?_set_ne hj] at q; exact q
    exact r.own j l es es' b (at_ e1) (at_ e2) e3 e4
section
variable {X : Cx} {st : Stmt} {t : DS}
/-- a statement ahead of which a dict comes to rest -/
def dRestDic (i : Nat) (t : DS) : DS := fun D ρ => match ρ[i]? with
  | some (.dic kds) => lone ρ i = true ∧ t D (ρ.set i (.dat (dictD kds)))
  | _ => False
theorem ds_restDic (i : Nat) (h : DP X st t) : DP X st (dRestDic i t) := by
  refine PS.wk h fun D σ H ⟨p, H0, F0, F, ρ, Dd, f, x, r, q, k⟩ => ?_
  unfold dRestDic at q
  split at q
  · rename_i kds ei
    obtain ⟨lo, q⟩ := q
    obtain ⟨a, L, h, r2⟩ := r.restDic ei lo
    exact ⟨p, H0, F0, _, _, Dd, f, x.rest h.1 h.2.2.2 h.2.1, r2, q, k.mono (same_upd h.2.1)⟩
  · exact q.elim
end
/-! ### y[a], y[b] = c, d -/
def rSetDT (X : Cx) : V → V → V → Hp → (Hp → Prop) → Prop := fun o i v H Q => ∃ (a b : Addr) (k : List Int) (L : DL3), o = .ref a ∧ i = .ref b ∧ IsDT X H a L ∧ SqT X.K H b (k.map V.int) ∧ L.length < sizeLine ∧ Q (upd H a (DicTO a (putT L k b v)))
theorem set_dicT {X : Cx} (hu : X.A.units + 1 < cLine) : PSet X (rSetDT X) := by
  intro pins s σ H o i v ov iv u Q I ro ri rv h
  obtain ⟨a, b, k, L, rfl, rfl, d, hb, hl, q⟩ := h
  cases ro
  cases ri
  exact dT_setItem hu I d hb hl rv fun s' I' => ⟨_, I', q⟩
def anyDic : Option Sl → Option (Option Addr × List (List Int × PyData))
  | some (.dic kds) => some (none, kds)
  | some (.mdic a kds) => some (some a, kds)
  | _ => none
theorem Rep.anyDic {k : Kw} {p : Option Addr} {H0 F H : Hp} {σ : Sg} {ρ : Rho} (r : Rep k p H0 F H σ ρ) {i : Nat} {oa : Option Addr} {kds : List (List Int × PyData)} (e : DL.anyDic ρ[i]? = some (oa, kds)) :
    ∃ (a : Addr) (L : DL3) (ds : List PyData), slv σ i = some (.ref a) ∧ (∀ b, oa = some b → b = a) ∧ (H0 a = none ∧ F a = none ∧ p ≠ some a ∧ H a = some (DicTO a L)) ∧ (∀ q ∈ L, SqT k.K F q.2.1 (q.1.map V.int)) ∧ DVs k.K F (L.map fun q => q.2.2) ds ∧ kds = (L.map fun q => q.1).zip ds := by
  unfold DL.anyDic at e
  split at e
  · rename_i kd es
    cases e
    obtain ⟨a, L, ds, ea, h⟩ := r.all i _ es
    exact ⟨a, L, ds, ea, (fun b q => by cases q), h⟩
  · rename_i a kd es
    cases e
    obtain ⟨L, ds, ea, h⟩ := r.all i _ es
    exact ⟨a, L, ds, ea, (fun b q => by cases q; rfl), h⟩
  · cases e
def slDic (oa : Option Addr) (kds : List (List Int × PyData)) : Sl := match oa with | none => .dic kds | some a => .mdic a kds
/-- writing to a dict, of either kind -/
theorem Rep.wdicA {k : Kw} {p : Option Addr} {H0 F H : Hp} {σ : Sg} {ρ : Rho} (r : Rep k p H0 F H σ ρ) {i : Nat} {oa : Option Addr} {kds' : List (List Int × PyData)} {a : Addr} {L L' : DL3} {ds' : List PyData} (hi : i < ρ.length) (ea : slv σ i = some (.ref a)) (ho : ∀ b, oa = some b → b = a)
    (h : H0 a = none ∧ F a = none ∧ p ≠ some a ∧ H a = some (DicTO a L)) (lo : lone ρ i = true) (hk : ∀ q ∈ L', SqT k.K F q.2.1 (q.1.map V.int)) (hv : DVs k.K F (L'.map fun q => q.2.2) ds') (hz : kds' = (L'.map fun q => q.1).zip ds') :
    Rep k p H0 F (upd H a (DicTO a L')) σ (ρ.set i (slDic oa kds')) := by
  refine ⟨by simp [r.len], fun j s q => ?_, fun j l es es' b e1 e2 e3 e4 => ?_⟩
  · by_cases hj : i = j
    · subst hj
      rw [List.getElem?_set_self hi] at q
      cases q
      cases oa with
      | none => exact ⟨a, L', ds', ea, ⟨h.1, h.2.1, h.2.2.1, upd_same⟩, hk, hv, hz⟩
      | some b =>
        have := ho b rfl
        subst this
        exact ⟨L', ds', ea, ⟨h.1, h.2.1, h.2.2.1, upd_same⟩, hk, hv, hz⟩
    · rw [List.getElem?_set_ne hj] at q
      have hs := r.all j s q
      have pl : plainS s = true := by
        unfold lone at lo
        rw [List.all_eq_true] at lo
        exact lo s (List.mem_of_getElem? (i := j) (by rw [List.getElem?_set_ne hj]; exact q))
      cases s with
      | emp => trivial
      | dat d => exact hs
      | own es =>
        obtain ⟨b, ws, eb, b0, bn, bp, bh, br⟩ := hs
        have nab : b ≠ a := fun z => by rw [z, h.2.2.2] at bh; cases bh
        exact ⟨b, ws, eb, b0, bn, bp, by rw [upd_ne nab]; exact bh, br⟩
      | pot => exact hs
      | sett S => cases pl
      | dic d => cases pl
      | mdic b d => cases pl
      | tmp d1 => cases pl
      | rdic d =>
        obtain ⟨b, L2, ds, eb, ⟨b0, bn, bp, bh⟩, br⟩ := hs
        have nab : b ≠ a := fun z => b0 (z ▸ h.1)
        exact ⟨b, L2, ds, eb, ⟨b0, bn, bp, by rw [upd_ne nab]; exact bh⟩, br⟩
      | fact φ => exact hs
  · have at_ : ∀ {j : Nat} {es : List PyData}, (ρ.set i (slDic oa kds'))[j]? = some (.own es) → ρ[j]? = some (.own es) := fun {j es} q => by
      by_cases hj : i = j
      · subst hj
        rw [List.getElem?_set_self hi] at q
        cases oa <;> cases q
      · rw [List.getElem?_set_ne hj] at q; exact q
    exact r.own j l es es' b (at_ e1) (at_ e2) e3 e4
section
variable {X : Cx} {pos : Pos} {y : Str}
def dPut2 (i ia ib ic id : Nat) : DS := fun D ρ => ∃ oa kds ma mb zc zd, anyDic ρ[i]? = some (oa, kds) ∧ (ρ[ia]? = some (.dat ma) ∧ ρ[ib]? = some (.dat mb) ∧ ρ[ic]? = some (.dat (tupI zc)) ∧ ρ[id]? = some (.dat (tupI zd))) ∧ (lone ρ i = true ∧ kds.length < 1000) ∧
  D.nx (ρ.set i (slDic oa (putD (putD kds zc ma) zd mb)))
theorem putD_len (kds : List (List Int × PyData)) (z : List Int) (c : PyData) : (putD kds z c).length ≤ kds.length + 1 := by
  unfold putD
  split
  · rw [List.length_map]; omega
  · rw [List.length_append]; simp
/-- y[c], y[d] = (a, b) -/
theorem ds_put2 (i ia ib ic id : Nat) {na nb nc nd : Str} {k1 k2 : Nat} {q1 q2 q3 q4 q5 q6 q7 q8 q9 q14 : Pos} (hc : X.calm = true) (hu : X.A.units + 1 < cLine)
    (hi : X.N[i]? = some y := by rfl) (hia : X.N[ia]? = some na := by rfl) (hib : X.N[ib]? = some nb := by rfl) (hic : X.N[ic]? = some nc := by rfl) (hid : X.N[id]? = some nd := by rfl)
    (hv : Vis X.env.scope y := by first | exact Or.inl rfl | exact Or.inr (Or.inl rfl) | exact Or.inr (Or.inr rfl)) (hva : Vis X.env.scope na := by first | exact Or.inl rfl | exact Or.inr (Or.inl rfl) | exact Or.inr (Or.inr rfl))
    (hvb : Vis X.env.scope nb := by first | exact Or.inl rfl | exact Or.inr (Or.inl rfl) | exact Or.inr (Or.inr rfl)) (hvc : Vis X.env.scope nc := by first | exact Or.inl rfl | exact Or.inr (Or.inl rfl) | exact Or.inr (Or.inr rfl))
    (hvd : Vis X.env.scope nd := by first | exact Or.inl rfl | exact Or.inr (Or.inl rfl) | exact Or.inr (Or.inr rfl))
    (dy : (y == ("__debug__" : Str)) = false := by decide) (da : (na == ("__debug__" : Str)) = false := by decide) (db : (nb == ("__debug__" : Str)) = false := by decide) (dc : (nc == ("__debug__" : Str)) = false := by decide) (dd : (nd == ("__debug__" : Str)) = false := by decide)
    (cy : (y == ("__classdict__" : Str)) = false := by decide) (ca : (na == ("__classdict__" : Str)) = false := by decide) (cb : (nb == ("__classdict__" : Str)) = false := by decide) (cc : (nc == ("__classdict__" : Str)) = false := by decide) (cd : (nd == ("__classdict__" : Str)) = false := by decide)
    (hs : swapsWithSole [.Tuple [.Subscript (.Name y q1) (.Name nc q2) q3, .Subscript (.Name y q4) (.Name nd q5) q6] k1 q7] (.Tuple [.Name na q8, .Name nb q9] k2 q14) pos.line X.env = pure false := by rfl)
    (hw : swappedStores [.Tuple [.Subscript (.Name y q1) (.Name nc q2) q3, .Subscript (.Name y q4) (.Name nd q5) q6] k1 q7] (.Tuple [.Name na q8, .Name nb q9] k2 q14) X.env = pure none := by rfl) :
    DP X (.Assign [.Tuple [.Subscript (.Name y q1) (.Name nc q2) q3, .Subscript (.Name y q4) (.Name nd q5) q6] k1 q7] (.Tuple [.Name na q8, .Name nb q9] k2 q14) pos) (dPut2 i ia ib ic id) := by
  refine PS.wk (ps_asg (pe_tup (pa_cons (pe_var hia hva da ca) (pa_cons (pe_var hib hvb db cb) pa_nil (by rfl)) (by rfl)))
    (pg_tup hc (pgs_cons (pg_sub (pe_var hi hv dy cy) (pe_var hic hvc dc cc) (set_dicT hu)) (pgs_cons (pg_sub (pe_var hi hv dy cy) (pe_var hid hvd dd cd) (set_dicT hu)) pgs_nil))) hs hw) fun D σ H ⟨p, H0, F0, F, ρ, Dd, f, x, r, q, k⟩ => ?_
  obtain ⟨oa, kds, ma, mb, zc, zd, ei, ⟨ea, eb, ec, ed⟩, ⟨lo, hl⟩, q⟩ := q
  obtain ⟨a, L, ds, es, ho, h, hL, hS, hz⟩ := r.anyDic ei
  obtain ⟨va, ea2, ra⟩ := r.all ia _ ea
  obtain ⟨vb, eb2, rb⟩ := r.all ib _ eb
  obtain ⟨vc, ec2, rc⟩ := r.all ic _ ec
  obtain ⟨vd, ed2, rd⟩ := r.all id _ ed
  have hi' : i < ρ.length := by
    cases e : ρ[i]? with
    | none => rw [e] at ei; cases ei
    | some s => exact (List.getElem?_eq_some_iff.mp e).1
  cases rc with
  | @tup bc xs _ c1 c2 =>
    have ex := c2.ints
    subst ex
    cases rd with
    | @tup bd xs _ d1 d2 =>
      have ex := d2.ints
      subst ex
      have hl' : L.length < 1000 := by
        have e := hS.length
        rw [hz, List.length_zip, List.length_map] at hl
        rw [List.length_map] at e
        omega
      have fx := x.fit f
      obtain ⟨ds1, s1, e1⟩ := put_rel (z := zc) (b := bc) ra hS
      have hL1 : ∀ q ∈ putT L zc bc va, SqT X.K F q.2.1 (q.1.map V.int) := fun q hq => by
        rcases keys_putT hq with ⟨z1, z2⟩ | ⟨q', hq', z1, z2⟩
        · rw [z1, z2]; exact c1
        · rw [z1, z2]; exact hL q' hq'
      obtain ⟨ds2, s2, e2⟩ := put_rel (z := zd) (b := bd) rb s1
      have hL2 : ∀ q ∈ putT (putT L zc bc va) zd bd vb, SqT X.K F q.2.1 (q.1.map V.int) := fun q hq => by
        rcases keys_putT hq with ⟨z1, z2⟩ | ⟨q', hq', z1, z2⟩
        · rw [z1, z2]; exact d1
        · rw [z1, z2]; exact hL1 q' hq'
      refine ⟨va, slv_of ea2, vb, slv_of eb2, by rw [sl_eq]; show 2 ≤ 16777216; decide, fun T hT => ?_⟩
      have naT : a ≠ T := ne_of_none h.2.2.2 hT
      have j := Ext.junk fx (o := .tup [va, vb]) hT
      have xj := x.trans f j
      have fj := xj.fit f
      have up : ∀ (M : DL3) b zs, SqT X.K F b zs → SqT X.K (upd (upd H T (.tup [va, vb])) a (DicTO a M)) b zs := fun M b zs hb => by
        refine sqt_same (fun c o e => ?_) hb
        rw [upd_ne (fun z => by rw [z, h.2.1] at e; cases e)]
        exact fj.sub c o e
      have lp := length_putT L zc bc va
      refine ⟨T, [va, vb], rfl, .of upd_same, rfl, va, [vb], rfl, .ref a, slv_of es, .ref bc, slv_of ec2, a, bc, zc, L, rfl, rfl, ⟨by rw [upd_ne naT]; exact h.2.2.2, fun q hq => sqt_same fj.sub (hL q hq)⟩, sqt_same fj.sub c1, by rw [sl_eq]; omega, ?_⟩
      refine ⟨vb, [], rfl, .ref a, slv_of es, .ref bd, slv_of ed2, a, bd, zd, putT L zc bc va, rfl, rfl, ⟨upd_same, fun q hq => up _ _ _ (hL1 q hq)⟩, up _ _ _ d1, by rw [sl_eq]; omega, rfl, ?_⟩
      rw [upd_upd]
      have r2 := ((r.ext j).wdicA (oa := oa) (kds' := putD (putD kds zc ma) zd mb) hi' es ho ⟨h.1, h.2.1, h.2.2.1, by rw [upd_ne naT]; exact h.2.2.2⟩ lo hL2 s2 (by rw [hz, e1, e2]))
      exact k.nx σ F _ _ (Same.refl _) (xj.write h.1 h.2.1 h.2.2.1) r2 q
end
end DL


/-! Defs that are handed a dict: one that they read, one that they write. -/
namespace DL
open PySem PySem.Spec PyProof.Rows L2
/-! ### promises of any kind -/
def GoodS (P : Program) (w : World) (K : PySem.W.Frag) (mg : Str → Option Value) (base : Heap) (x : String) (st : Stmt) (k : Nat) (ps : List Str) (sp : Sp) : Prop :=
  ∃ a fd, mg x = some (.ref a) ∧ Fun K (Str.ofString x) (Str.ofString x) st a fd ∧ Binds K fd ps [] ∧ FnG P w K mg base CX0 k a fd ps sp
section
variable {X : Cx} {k : Nat} {ps : List Str} {sp : Sp} {x : String} {st : Stmt} {p pos : Pos} {e : Expr} {es : List Expr} {t : TA}
theorem pe_callS (G : GoodS X.prog X.w X.K X.mg X.base x st k ps sp) (hr : Rm k X.A) (ha : PA X (e :: es) t)
    (hg : Gl X x := by rfl) (hdb : ((Str.ofString x) == ("__debug__" : Str)) = false := by decide) (he : starEach (e :: es) X.env = (false, eval e X.env) :: starEach es X.env := by rfl) (hpl : (backTo pos (starEach es X.env)).any (·.1) = false := by rfl) :
    PE X (.Call (.Name x p) (e :: es) [] pos) (fun σ H Q => t σ H fun vs H1 => sp vs H1 Q E0) := by
  obtain ⟨a, fd, hm, F, b, G⟩ := G
  refine ⟨fun pins s σ H Q I h2 => ?_⟩
  refine wpAny_Call_Name_kw (ld_glob I hg hm ?_ hdb)
  refine PySem.W.callWith_K (h₀ := X.base) I.ok.mod.kin F.kp (thn (ha.run pos pins s σ H _ I h2) fun us s1 ⟨vs, H1, I1, r, q⟩ => ⟨I1.kIn, ?_⟩) he hpl
  have bb : us.length = ps.length → BindsTo s1 fd ⟨us, []⟩ (ps.zip us) := fun hl => by
    have := b s1 us I1.kIn (by rw [List.append_nil]; exact hl)
    rw [List.append_nil] at this
    exact this
  refine wpAny_call (codeAny_mono (run_g G hr bb pass0 I1 r q) fun r s' hq => ?_)
  cases r with
  | error e => exact hq
  | ok fl =>
    cases fl with
    | ret u => exact hq
    | next => exact hq.elim
    | brk => exact hq.elim
    | cont => exact hq.elim
end
/-! ### a def that reads a dict -/
inductive Ar2 where
  | d (x : PyData)
  | c (kds : List (List Int × PyData))
/-- a dict at hand, not at rest -/
def DicV (k : Kw) (p : Option Addr) (F H : Hp) (v : V) (kds : List (List Int × PyData)) : Prop :=
  ∃ (a : Addr) (L : DL3) (ds : List PyData), v = .ref a ∧ (F a = none ∧ p ≠ some a ∧ H a = some (DicTO a L)) ∧ (∀ q ∈ L, SqT k.K F q.2.1 (q.1.map V.int)) ∧ DVs k.K F (L.map fun q => q.2.2) ds ∧ kds = (L.map fun q => q.1).zip ds
inductive Ar2Ok (k : Kw) (p : Option Addr) (F H : Hp) : V → Ar2 → Prop
  | d {v : V} {x : PyData} : DV k.K F v x → Ar2Ok k p F H v (.d x)
  | c {v : V} {kds : List (List Int × PyData)} : DicV k p F H v kds → Ar2Ok k p F H v (.c kds)
inductive Ars2Ok (k : Kw) (p : Option Addr) (F H : Hp) : List V → List Ar2 → Prop
  | nil : Ars2Ok k p F H [] []
  | cons {v : V} {a : Ar2} {vs : List V} {as : List Ar2} : Ar2Ok k p F H v a → Ars2Ok k p F H vs as → Ars2Ok k p F H (v :: vs) (a :: as)
section
variable {k : Kw} {p : Option Addr} {F H F' H' : Hp}
theorem DicV.ext {v : V} {kds : List (List Int × PyData)} (h : DicV k p F H v kds) (x : Ext p F H F' H') : DicV k p F' H' v kds := by
  obtain ⟨a, L, ds, e, ⟨n, hp, q⟩, r, w, z⟩ := h
  exact ⟨a, L, ds, e, ⟨x.fr a _ q n, hp, x.hh a _ hp q⟩, fun z hz => sqt_same x.ff (r z hz), w.mono x.ff, z⟩
theorem Ar2Ok.ext {v : V} {a : Ar2} (h : Ar2Ok k p F H v a) (x : Ext p F H F' H') : Ar2Ok k p F' H' v a := by
  cases h with
  | d h => exact .d (h.mono x.ff)
  | c h => exact .c (h.ext x)
theorem Ars2Ok.length : ∀ {vs : List V} {as : List Ar2}, Ars2Ok k p F H vs as → vs.length = as.length
  | _, _, .nil => rfl
  | _, _, .cons _ r => by simp [Ars2Ok.length r]
theorem Ars2Ok.get : ∀ {vs : List V} {as : List Ar2} {i : Nat}, Ars2Ok k p F H vs as → (vs[i]? = none ∧ as[i]? = none) ∨ ∃ v a, vs[i]? = some v ∧ as[i]? = some a ∧ Ar2Ok k p F H v a
  | _, _, i, .nil => .inl ⟨by simp, by simp⟩
  | _, _, 0, .cons h _ => .inr ⟨_, _, rfl, rfl, h⟩
  | _, _, i + 1, .cons _ t => by
    rcases Ars2Ok.get (i := i) t with ⟨h1, h2⟩ | ⟨v, a, h1, h2, h3⟩
    · exact .inl ⟨by simpa using h1, by simpa using h2⟩
    · exact .inr ⟨v, a, by simpa using h1, by simpa using h2, h3⟩
def ar2Sl : Ar2 → Sl
  | .d x => .dat x
  | .c kds => .rdic kds
def startR (n : Nat) (as : List Ar2) : Rho := as.map ar2Sl ++ List.replicate (n - as.length) .emp
theorem rep_startR {N : List Str} {vs : List V} {as : List Ar2} (h : Ars2Ok k p F H vs as) : Rep k p H F H (L2.start N vs) (startR N.length as) := by
  have l := h.length
  refine ⟨by simp [L2.start, startR, l], fun i sl e => ?_, fun i j ds es a e1 => ?_⟩
  · unfold startR at e
    by_cases hi : i < as.length
    · rw [List.getElem?_append_left (by simpa using hi), List.getElem?_map] at e
      rcases h.get (i := i) with ⟨_, h2⟩ | ⟨v, a, h1, h2, h3⟩
      · rw [h2] at e; cases e
      · rw [h2] at e
        cases e
        have es : slv (L2.start N vs) i = some v := by
          apply slv_eq
          unfold L2.start
          rw [List.getElem?_append_left (by simp [l, hi]), List.getElem?_map, h1]
          rfl
        rw [es]
        cases h3 with
        | d h => exact ⟨v, rfl, h⟩
        | c h =>
          obtain ⟨a, L, ds, rfl, ⟨n, hp, q⟩, r⟩ := h
          exact ⟨a, L, ds, rfl, ⟨(by rw [q]; exact fun z => by cases z), n, hp, q⟩, r⟩
    · rw [List.getElem?_append_right (by simpa using hi), List.getElem?_replicate] at e
      split at e
      · cases e; trivial
      · cases e
  · unfold startR at e1
    by_cases hi : i < as.length
    · rw [List.getElem?_append_left (by simpa using hi), List.getElem?_map] at e1
      cases q : as[i]? with
      | none => rw [q] at e1; cases e1
      | some b => rw [q] at e1; cases b <;> cases e1
    · rw [List.getElem?_append_right (by simpa using hi), List.getElem?_replicate] at e1
      split at e1 <;> cases e1
end
abbrev DFR := List Ar2 → (Res → Prop) → Prop
def spR (k : Kw) (df : DFR) : Sp := fun vs H Q _ => ∃ p F as, ∃ Qd : Res → Prop, Fit p F H ∧ Ars2Ok k p F H vs as ∧ df as Qd ∧ ∀ r v F' H', Ext p F H F' H' → ResOk k p H F' H' v r → Qd r → Q v H'
def GoodR (P : Program) (w : World) (K : PySem.W.Frag) (mg : Str → Option Value) (base : Heap) (x : String) (st : Stmt) (k : Nat) (ps : List Str) (df : DFR) : Prop := GoodS P w K mg base x st k ps (spR ⟨K, P, w⟩ df)
section
variable {P : Program} {w : World} {K : PySem.W.Frag} {mg : Str → Option Value} {base : Heap} {x : String} {st : Stmt} {k : Nat} {ps N : List Str} {t : DS}
theorem goodR_mk {df : DFR} (h : At K mg x st) (S : FnScope N ps (defScope st))
    (hbd : ∀ (kV doc pm : Value) (an : Option Addr) (cdv ct : Value) (us : List Value), us.length = ps.length → bindArgs (PySem.W.fnOf x x (defArgs st) (defBody st) (defScope st) .none kV doc pm an cdv ct) ⟨us, []⟩ = pure (ps.zip us))
    (hl : ∀ as Q, df as Q → as.length = ps.length)
    (hb : ∀ (f : Addr) (cdv : Value) (A : Around) (outer : List Env) (s : Shared) (H : Hp) (E : XK), Rm k (A.deeper (envOfC x (defScope st) s.heap.objs.size f cdv)) → DPs (cxOf CX0 P w K mg base N x (defScope st) f cdv A outer s H E).nox (defBody st) t)
    (run : ∀ as Q, df as Q → t { nx := fun _ => Q (.dat .none), rt := Q } (startR N.length as)) : GoodR P w K mg base x st (k + 1) ps df := by
  obtain ⟨a, fd, hm, F⟩ := h
  refine ⟨a, fd, hm, F, F.binds hbd, fn_body F S (fun vs H Q E ⟨p, Fr, as, Qd, _, ha, hd, _⟩ => by rw [ha.length]; exact hl as Qd hd) fun cdv A outer s H vs Q E hr ⟨p, Fr, as, Qd, f, ha, hd, c⟩ => ?_⟩
  refine ⟨_, (hb a cdv A outer s H E hr).nox, p, H, Fr, Fr, startR N.length as, { nx := fun _ => Qd (.dat .none), rt := Qd }, f, Ext.refl f.sub, rep_startR ha, run as Qd hd, ?_⟩
  exact ⟨fun σ' F' H' ρ' _ x _ q => c (.dat .none) .non F' H' x .non q, fun _ _ _ _ _ _ _ q => q.elim, fun _ _ _ _ _ _ _ q => q.elim, fun r v F' H' x hr q => c r v F' H' x hr q⟩
end
/-- arguments: data, dicts at hand -/
abbrev DAR := Rho → (List Ar2 → Prop) → Prop
def tDAR (k : Kw) (t : DAR) : TA := fun σ H Q => ∃ p H0 F ρ, ∃ Qd : List Ar2 → Prop, Fit p F H ∧ Rep k p H0 F H σ ρ ∧ t ρ Qd ∧ ∀ as vs F' H', Ext p F H F' H' → Ars2Ok k p F' H' vs as → Qd as → Q vs H'
def dRNil : DAR := fun _ Q => Q []
def dRCons (t : DT) (u : DAR) : DAR := fun ρ Q => t ρ fun d => u ρ fun as => Q (.d d :: as)
def dRDic (i : Nat) (u : DAR) : DAR := fun ρ Q => ∃ kds, dicAt ρ[i]? = some kds ∧ u ρ fun as => Q (.c kds :: as)
theorem Rep.dicV {k : Kw} {p : Option Addr} {H0 F H : Hp} {σ : Sg} {ρ : Rho} (r : Rep k p H0 F H σ ρ) {i : Nat} {kds : List (List Int × PyData)} (e : DL.dicAt ρ[i]? = some kds) : ∃ v, slv σ i = some v ∧ DicV k p F H v kds := by
  unfold DL.dicAt at e
  split at e
  · rename_i kd es
    cases e
    obtain ⟨a, L, ds, ea, ⟨_, n, hp, ha⟩, h⟩ := r.all i _ es
    exact ⟨.ref a, ea, a, L, ds, rfl, ⟨n, hp, ha⟩, h⟩
  · rename_i kd es
    cases e
    obtain ⟨a, L, ds, ea, ⟨_, n, hp, ha⟩, h⟩ := r.all i _ es
    exact ⟨.ref a, ea, a, L, ds, rfl, ⟨n, hp, ha⟩, h⟩
  · rename_i a kd es
    cases e
    obtain ⟨L, ds, ea, ⟨_, n, hp, ha⟩, h⟩ := r.all i _ es
    exact ⟨.ref a, ea, a, L, ds, rfl, ⟨n, hp, ha⟩, h⟩
  · cases e
section
variable {X : Cx} {pos p1 : Pos} {e : Expr} {es : List Expr} {t : DT} {u : DAR}
theorem dr_nil : PA X [] (tDAR (kw X) dRNil) := PA.wk pa_nil fun σ H Q ⟨p, H0, F, ρ, Qd, f, r, q, k⟩ => k [] [] F H (Ext.refl f.sub) .nil q
theorem dr_cons (h : DE X e t) (hr : PA X es (tDAR (kw X) u)) (he : starEach (e :: es) X.env = (false, eval e X.env) :: starEach es X.env := by rfl) : PA X (e :: es) (tDAR (kw X) (dRCons t u)) := by
  refine PA.wk (pa_cons h hr he) fun σ H Q ⟨p, H0, F, ρ, Qd, f, r, q, k⟩ => ?_
  refine ⟨p, H0, F, ρ, _, f, r, q, fun d v F' H' x hv hq => ?_⟩
  exact ⟨p, H0, F', ρ, _, x.fit f, r.ext x, hq, fun ds vs F2 H2 x2 v2 q2 => k (.d d :: ds) (v :: vs) F2 H2 (x.trans f x2) (.cons (.d (hv.mono x2.ff)) v2) q2⟩
theorem dr_dic (i : Nat) {y : Str} (hr : PA X es (tDAR (kw X) u)) (hi : X.N[i]? = some y := by rfl) (hv : Vis X.env.scope y := by first | exact Or.inl rfl | exact Or.inr (Or.inl rfl) | exact Or.inr (Or.inr rfl)) (hd : (y == ("__debug__" : Str)) = false := by decide)
    (hcd : (y == ("__classdict__" : Str)) = false := by decide) (he : starEach (.Name y p1 :: es) X.env = (false, eval (.Name y p1) X.env) :: starEach es X.env := by rfl) : PA X (.Name y p1 :: es) (tDAR (kw X) (dRDic i u)) := by
  refine PA.wk (pa_cons (pe_var hi hv hd hcd) hr he) fun σ H Q ⟨p, H0, F, ρ, Qd, f, r, ⟨kds, ei, q⟩, k⟩ => ?_
  obtain ⟨v, ev, dv⟩ := r.dicV ei
  exact ⟨v, slv_of ev, p, H0, F, ρ, _, f, r, q, fun as vs F2 H2 x2 v2 q2 => k (.c kds :: as) (v :: vs) F2 H2 x2 (.cons (.c (dv.ext x2)) v2) q2⟩
def dCallR (df : DFR) (u : DAR) : DT := fun ρ Q => u ρ fun as => df as fun r => Q r.data
theorem de_callR {k : Nat} {ps : List Str} {df : DFR} {x : String} {st : Stmt} (G : GoodR X.prog X.w X.K X.mg X.base x st k ps df) (hr : Rm k X.A) (ha : PA X (e :: es) (tDAR (kw X) u))
    (hg : Gl X x := by rfl) (hdb : ((Str.ofString x) == ("__debug__" : Str)) = false := by decide) (he : starEach (e :: es) X.env = (false, eval e X.env) :: starEach es X.env := by rfl) (hpl : (backTo pos (starEach es X.env)).any (·.1) = false := by rfl) :
    DE X (.Call (.Name x p1) (e :: es) [] pos) (dCallR df u) := by
  refine PE.wk (pe_callS G hr ha hg hdb he hpl) fun σ H Q ⟨p, H0, F, ρ, Qd, f, r, q, c⟩ => ?_
  refine ⟨p, H0, F, ρ, _, f, r, q, fun as vs F' H' x hv hq => ?_⟩
  refine ⟨p, F', as, _, x.fit f, hv, hq, fun z v F2 H2 x2 v2 q2 => ?_⟩
  obtain ⟨F3, x3, rv⟩ := v2.rest x2
  exact c _ v F3 H2 (x.trans f x3) rv q2
end
end DL


namespace DL
open PySem PySem.Spec PyProof.Rows L2
/-! ### a def that writes to a dict -/
def eraseH (H : Hp) (a : Addr) : Hp := fun b => if b = a then none else H b
theorem erase_at {H : Hp} {a : Addr} : eraseH H a a = none := if_pos rfl
theorem erase_ne {H : Hp} {a b : Addr} (h : b ≠ a) : eraseH H a b = H b := if_neg h
abbrev DFM := List (List Int × PyData) → List PyData → (List (List Int × PyData) → Prop) → Prop
def spM (k : Kw) (df : DFM) : Sp := fun vs H Q _ => ∃ (p : Option Addr) (F : Hp) (a : Addr) (ws : List V) (xs : List PyData) (kds : List (List Int × PyData)) (Qd : List (List Int × PyData) → Prop), vs = .ref a :: ws ∧ Fit p F H ∧ DicV k p F H (.ref a) kds ∧ DVs k.K F ws xs ∧ df kds xs Qd ∧
  ∀ kds' F' H', Ext p F (eraseH H a) F' H' → DicV k p F' H' (.ref a) kds' → Qd kds' → Q .non H'
def GoodM (P : Program) (w : World) (K : PySem.W.Frag) (mg : Str → Option Value) (base : Heap) (x : String) (st : Stmt) (k : Nat) (ps : List Str) (df : DFM) : Prop := GoodS P w K mg base x st k ps (spM ⟨K, P, w⟩ df)
def startM (n : Nat) (a : Addr) (kds : List (List Int × PyData)) (xs : List PyData) : Rho := .mdic a kds :: xs.map Sl.dat ++ List.replicate (n - xs.length - 1) .emp
theorem rep_startM {k : Kw} {p : Option Addr} {F H : Hp} {N : List Str} {a : Addr} {ws : List V} {xs : List PyData} {kds : List (List Int × PyData)} (d : DicV k p F H (.ref a) kds) (h : DVs k.K F ws xs) : Rep k p (eraseH H a) F H (L2.start N (.ref a :: ws)) (startM N.length a kds xs) := by
  have l := h.length
  refine ⟨by simp [L2.start, startM, l]; omega, fun i sl e => ?_, fun i j ds es b e1 => ?_⟩
  · unfold startM at e
    cases i with
    | zero =>
      cases e
      have es : slv (L2.start N (.ref a :: ws)) 0 = some (.ref a) := by
        apply slv_eq
        unfold L2.start
        rfl
      obtain ⟨a', L, ds, e, ⟨n, hp, q⟩, r⟩ := d
      cases e
      exact ⟨L, ds, es, ⟨erase_at, n, hp, q⟩, r⟩
    | succ i =>
      rw [List.cons_append, List.getElem?_cons_succ] at e
      by_cases hi : i < xs.length
      · rw [List.getElem?_append_left (by simpa using hi), List.getElem?_map] at e
        obtain ⟨d, hd⟩ : ∃ d, xs[i]? = some d := ⟨xs[i], List.getElem?_eq_getElem hi⟩
        rw [hd] at e
        cases e
        obtain ⟨v, hv, rv⟩ := h.get hd
        have es : slv (L2.start N (.ref a :: ws)) (i + 1) = some v := by
          apply slv_eq
          unfold L2.start
          rw [List.map_cons, List.cons_append, List.getElem?_cons_succ, List.getElem?_append_left (by simp [l, hi]), List.getElem?_map, hv]
          rfl
        rw [es]
        exact ⟨v, rfl, rv⟩
      · rw [List.getElem?_append_right (by simpa using hi), List.getElem?_replicate] at e
        split at e
        · cases e; trivial
        · cases e
  · unfold startM at e1
    cases i with
    | zero => cases e1
    | succ i =>
      rw [List.cons_append, List.getElem?_cons_succ] at e1
      by_cases hi : i < xs.length
      · rw [List.getElem?_append_left (by simpa using hi), List.getElem?_map] at e1
        cases q : xs[i]? with
        | none => rw [q] at e1; cases e1
        | some b => rw [q] at e1; cases e1
      · rw [List.getElem?_append_right (by simpa using hi), List.getElem?_replicate] at e1
        split at e1 <;> cases e1
section
variable {P : Program} {w : World} {K : PySem.W.Frag} {mg : Str → Option Value} {base : Heap} {x : String} {st : Stmt} {k : Nat} {ps N : List Str} {t : DS}
theorem goodM_mk {df : DFM} (h : At K mg x st) (S : FnScope N ps (defScope st))
    (hbd : ∀ (kV doc pm : Value) (an : Option Addr) (cdv ct : Value) (us : List Value), us.length = ps.length → bindArgs (PySem.W.fnOf x x (defArgs st) (defBody st) (defScope st) .none kV doc pm an cdv ct) ⟨us, []⟩ = pure (ps.zip us))
    (hl : ∀ kds xs Q, df kds xs Q → xs.length + 1 = ps.length)
    (hb : ∀ (f : Addr) (cdv : Value) (A : Around) (outer : List Env) (s : Shared) (H : Hp) (E : XK), Rm k (A.deeper (envOfC x (defScope st) s.heap.objs.size f cdv)) → DPs (cxOf CX0 P w K mg base N x (defScope st) f cdv A outer s H E).nox (defBody st) t)
    (run : ∀ kds xs a Q, df kds xs Q → t { nx := fun ρ => ∃ kds', ρ[0]? = some (.mdic a kds') ∧ Q kds', rt := fun _ => False } (startM N.length a kds xs)) : GoodM P w K mg base x st (k + 1) ps df := by
  obtain ⟨f, fd, hm, F⟩ := h
  refine ⟨f, fd, hm, F, F.binds hbd, fn_body F S (fun vs H Q E ⟨p, Fr, a, ws, xs, kds, Qd, e, _, _, hv, hd, _⟩ => by rw [e, List.length_cons, hv.length]; exact hl kds xs Qd hd) fun cdv A outer s H vs Q E hr ⟨p, Fr, a, ws, xs, kds, Qd, e, fi, dv, hv, hd, c⟩ => ?_⟩
  subst e
  obtain ⟨a', L, ds, e, ⟨n, hp, q⟩, r⟩ := id dv
  cases e
  have fe : Fit p Fr (eraseH H a) := by
    refine ⟨fun b o e => ?_, fun q' e => ?_⟩
    · rw [erase_ne (fun z => by rw [z, n] at e; cases e)]
      exact fi.sub b o e
    · obtain ⟨h1, h2⟩ := fi.pot q' e
      refine ⟨h1, ?_⟩
      obtain ⟨y, z, h3, h4⟩ := h2
      exact ⟨y, z, by rw [erase_ne (fun z => hp (by rw [e, z]))]; exact h3, h4⟩
  have xe : Ext p Fr (eraseH H a) Fr H := by
    have back : ∀ {b : Addr} {o : HO}, eraseH H a b = some o → H b = some o := fun {b o} e => by
      by_cases z : b = a
      · rw [z, erase_at] at e; cases e
      · rwa [erase_ne z] at e
    refine ⟨Same.refl _, fi.sub, fun b o _ e => back e, fun b o _ e => e, fun q' e h => ?_⟩
    obtain ⟨y, z, h3, h4⟩ := h
    exact ⟨y, z, back h3, h4⟩
  refine ⟨_, (hb f cdv A outer s H E hr).nox, p, eraseH H a, Fr, Fr, startM N.length a kds xs, _, fe, xe, rep_startM dv hv, run kds xs a Qd hd, ?_⟩
  refine ⟨fun σ' F' H' ρ' _ x r q => ?_, fun _ _ _ _ _ _ _ q => q.elim, fun _ _ _ _ _ _ _ q => q.elim, fun r v F' H' x hr q => q.elim⟩
  obtain ⟨kds', e0, q⟩ := q
  obtain ⟨L, ds, ea, ⟨_, h2, h3, h4⟩, h5⟩ := r.all 0 _ e0
  exact c kds' F' H' x ⟨a, L, ds, rfl, ⟨h2, h3, h4⟩, h5⟩ q
end
theorem Ext.callM {p : Option Addr} {F0 H0 F1 H1 F2 H2 : Hp} {a : Addr} (f : Fit p F0 H0) (x : Ext p F0 H0 F1 H1) (h0 : H0 a = none) (hp : p ≠ some a) (y : Ext p F1 (eraseH H1 a) F2 H2) : Ext p F0 H0 F2 H2 := by
  have ne : ∀ {b : Addr} {o : HO}, H0 b = some o → b ≠ a := fun e z => by rw [z, h0] at e; cases e
  refine ⟨x.ff.trans y.ff, y.fh, fun b o np e => y.hh b o np (by rw [erase_ne (ne e)]; exact x.hh b o np e), fun b o e n => ?_, fun q e h => ?_⟩
  · have n1 := x.fr b o e n
    by_cases hb : p = some b
    · obtain ⟨u, v, e2, _⟩ := x.pt b hb (f.pot b hb).2
      exact y.fr b _ (by rw [erase_ne (ne e)]; exact e2) n1
    · exact y.fr b o (by rw [erase_ne (ne e)]; exact x.hh b o hb e) n1
  · obtain ⟨u, v, e2, e3⟩ := x.pt q e h
    exact y.pt q e ⟨u, v, by rw [erase_ne (fun z => hp (by rw [e, z]))]; exact e2, e3⟩
theorem Rep.callM {k : Kw} {p : Option Addr} {H0 F1 H1 F2 H2 : Hp} {σ : Sg} {ρ : Rho} (r : Rep k p H0 F1 H1 σ ρ) {i : Nat} {a : Addr} {oa : Option Addr} {kds' : List (List Int × PyData)} {L : DL3} (hi : i < ρ.length) (ea : slv σ i = some (.ref a)) (ho : ∀ b, oa = some b → b = a) (h0 : H0 a = none) (h1 : H1 a = some (DicTO a L))
    (lo : lone ρ i = true) (y : Ext p F1 (eraseH H1 a) F2 H2) (d : DicV k p F2 H2 (.ref a) kds') : Rep k p H0 F2 H2 σ (ρ.set i (slDic oa kds')) := by
  refine ⟨by simp [r.len], fun j s q => ?_, fun j l es es' b e1 e2 e3 e4 => ?_⟩
  · by_cases hj : i = j
    · subst hj
      rw [List.getElem?_set_self hi] at q
      cases q
      obtain ⟨a', L', ds', e, ⟨n, hp, q⟩, rr⟩ := d
      cases e
      cases oa with
      | none => exact ⟨a, L', ds', ea, ⟨h0, n, hp, q⟩, rr⟩
      | some b =>
        have := ho b rfl
        subst this
        exact ⟨L', ds', ea, ⟨h0, n, hp, q⟩, rr⟩
    · rw [List.getElem?_set_ne hj] at q
      have hs := r.all j s q
      have pl : plainS s = true := by
        unfold lone at lo
        rw [List.all_eq_true] at lo
        exact lo s (List.mem_of_getElem? (i := j) (by rw [List.getElem?_set_ne hj]; exact q))
      cases s with
      | emp => trivial
      | dat d => obtain ⟨z, e, rr⟩ := hs; exact ⟨z, e, rr.mono y.ff⟩
      | own es =>
        obtain ⟨b, ws, eb, b0, bn, bp, bh, br⟩ := hs
        have nab : b ≠ a := fun z => by rw [z, h1] at bh; cases bh
        have e := (erase_ne (H := H1) nab).trans bh
        exact ⟨b, ws, eb, b0, y.fr b _ e bn, bp, y.hh b _ bp e, br.mono y.ff⟩
      | pot => exact hs
      | sett S => cases pl
      | dic d => cases pl
      | mdic b d => cases pl
      | tmp d1 => cases pl
      | rdic d =>
        obtain ⟨b, L2, ds, eb, ⟨b0, bn, bp, bh⟩, br, bw, bz⟩ := hs
        have nab : b ≠ a := fun z => b0 (z ▸ h0)
        have e := (erase_ne (H := H1) nab).trans bh
        exact ⟨b, L2, ds, eb, ⟨b0, y.fr b _ e bn, bp, y.hh b _ bp e⟩, fun q hq => sqt_same y.ff (br q hq), bw.mono y.ff, bz⟩
      | fact φ => exact fun F2 e => hs F2 (y.ff.trans e)
  · have at_ : ∀ {j : Nat} {es : List PyData}, (ρ.set i (slDic oa kds'))[j]? = some (.own es) → ρ[j]? = some (.own es) := fun {j es} q => by
      by_cases hj : i = j
      · subst hj
        rw [List.getElem?_set_self hi] at q
        cases oa <;> cases q
      · rw [List.getElem?_set_ne hj] at q; exact q
    exact r.own j l es es' b (at_ e1) (at_ e2) e3 e4
section
variable {X : Cx} {pos pos2 p1 py : Pos} {es : List Expr} {u : DL_}
/-- x(y, e, ..), y an own dict -/
def dCallM (df : DFM) (i : Nat) (u : DL_) : DS := fun D ρ => ∃ oa kds, anyDic ρ[i]? = some (oa, kds) ∧ lone ρ i = true ∧ u ρ fun xs => df kds xs fun kds' => D.nx (ρ.set i (slDic oa kds'))
theorem ds_callM (i : Nat) {k : Nat} {ps : List Str} {df : DFM} {x : String} {y : Str} {st : Stmt} (G : GoodM X.prog X.w X.K X.mg X.base x st k ps df) (hr : Rm k X.A) (ha : DLs X es u)
    (hi : X.N[i]? = some y := by rfl) (hv : Vis X.env.scope y := by first | exact Or.inl rfl | exact Or.inr (Or.inl rfl) | exact Or.inr (Or.inr rfl)) (hd : (y == ("__debug__" : Str)) = false := by decide) (hcd : (y == ("__classdict__" : Str)) = false := by decide)
    (hg : Gl X x := by rfl) (hdb : ((Str.ofString x) == ("__debug__" : Str)) = false := by decide) (he : starEach (.Name y py :: es) X.env = (false, eval (.Name y py) X.env) :: starEach es X.env := by rfl) (hpl : (backTo pos (starEach es X.env)).any (·.1) = false := by rfl)
    (hsw : swapsWith (.Call (.Name x p1) (.Name y py :: es) [] pos) none pos2.line X.env = pure false := by rfl) :
    DP X (.Expr (.Call (.Name x p1) (.Name y py :: es) [] pos) pos2) (dCallM df i u) := by
  refine PS.wk (ps_expr (pe_callS G hr (pa_cons (pe_var hi hv hd hcd) ha he) hg hdb he hpl) hsw) fun D σ H ⟨p, H0, F0, F, ρ, Dd, f, x, r, ⟨oa, kds, ei, lo, q⟩, k⟩ => ?_
  obtain ⟨a, L, ds, es, ho, h, hL, hS, hz⟩ := r.anyDic ei
  have hi' : i < ρ.length := by
    cases e : ρ[i]? with
    | none => rw [e] at ei; cases ei
    | some s => exact (List.getElem?_eq_some_iff.mp e).1
  refine ⟨.ref a, slv_of es, p, H0, F, ρ, _, x.fit f, r, q, fun xs vs F1 H1 y1 rv hq => ?_⟩
  obtain ⟨a', L', ds', es', ho', h', hL', hS', hz'⟩ := (r.ext y1).anyDic ei
  rw [es] at es'
  cases es'
  refine ⟨p, F1, a, vs, xs, kds, _, rfl, y1.fit (x.fit f), ⟨a, L', ds', rfl, ⟨h'.2.1, h'.2.2.1, h'.2.2.2⟩, hL', hS', hz'⟩, rv, hq, fun kds' F2 H2 y2 dv q2 => ?_⟩
  exact k.nx σ F2 H2 _ (y1.ff.trans y2.ff) (Ext.callM f (x.trans f y1) h'.1 h'.2.2.1 y2) ((r.ext y1).callM hi' es ho h'.1 h'.2.2.2 lo y2 dv) q2
end
end DL


namespace DL
open PySem PySem.Spec PyProof.Rows L2
/-! ### len(d), d a dict -/
theorem meets_lenT {prog : Program} {w : World} {d : Addr} {L : DL3} (hd : (d == sysModules) = false) :
    MeetsIn prog w (Builtin.«dict.__len__» ⟨[.ref d], []⟩) (fun _ R s => DicT0 s.heap d L ∧ R (.ok (.ret (.int L.length s.toks))) { s with toks := s.toks + 1 }) :=
  .of_wp fun A R s ⟨D, h⟩ => by
    obtain ⟨xs, o, es, ep, rel, ho, hc, hdat, hes, hn⟩ := D.ex
    show wpAny _ _ (dictSize d >>= _) _ _ s
    unfold dictSize
    refine wpAny_bind (wpAny_bind (wpAny_dictEntries ho hdat (wpAny_pure ?_)))
    show wpAny _ _ (Builtin.Dict.pendingCount d >>= _) _ _ s
    refine wpAny_bind (wpAny_pendingCount_other hd ?_)
    refine wpAny_ret_mkInt ?_
    have : es.size = L.length := by
      have e1 := congrArg List.length hes
      rw [List.length_map] at e1
      have e2 := Paired.length rel
      rw [e2, ← e1]; simp
    rw [Nat.add_zero, this]; exact h
theorem call_lenT {prog : Program} {w : World} {A : Around} {E : Value → Shared → Prop} {s : Shared} {d : Addr} {L : DL3} {Q : Value → Shared → Prop} (D : DicT0 s.heap d L)
    (h : Q (.int L.length (s.toks + 1)) { s with toks := s.toks + 1 + 1 }) : wpAny (model prog w) A (call (.builtin "len") [.ref d]) Q E s := by
  obtain ⟨xs, o, es, ep, rel, ho, hc, hdat, hes, hn⟩ := id D.ex
  have ty : s.TypeIs (.ref d) "dict" := ⟨o, ho, hc.1⟩
  have hl := D.len
  rw [sizeLine_eq] at hl
  refine Calls.call_function_entry kind_len plain_len entry_len (args_len1 _) ?_
  unfold Builtin.«len»
  refine wpAny_bind (m := oneArg "len" _) (wpAny_pure ?_)
  refine wpAny_bind (m := callSpecial? (.ref d) (Str.ofString "__len__")) (wpAny_callSpecial?_slot (name := Str.ofString "__len__") ty F.slot_dict_len
    (call_meetsIn F.slot_dict_len ty F.entry_dict_len (F.args_dict_len_1 _) (meets_lenT D.ns) ⟨D, ?_⟩))
  show wpAny _ _ _ _ _ { s with toks := s.toks + 1 }
  refine wpAny_bind (wpAny_holding (wpAny_pure ?_))
  refine wpAny_bind (wpAny_letGo ?_)
  show wpAny _ _ (if ((L.length : Nat) : Int) < 0 then _ else _) _ _ _
  rw [if_neg (by omega)]
  show wpAny _ _ (if ((L.length : Nat) : Int) ≥ 2 ^ 63 then _ else _) _ _ _
  rw [if_neg (by omega)]
  exact wpAny_bind (wpAny_mkInt (wpAny_pure ⟨_, rfl, h⟩))
theorem call_lenD {X : Cx} : CallR X (.builtin "len") (fun xs H Q => ∃ a L, xs = [.ref a] ∧ H a = some (DicTO a L) ∧ Q (.int (L.length : Nat)) H) := by
  intro pins s σ H xs us Q I r h
  obtain ⟨a, L, rfl, e, q⟩ := h
  obtain ⟨u, rfl, rx⟩ := vals1 r
  cases rx
  have D : DicT0 s.heap a L := (I.hok a _ e).1
  exact call_lenT D ⟨.int (L.length : Nat), H, I.tok _, ⟨_, rfl⟩, q⟩
theorem call_lenE {X : Cx} : CallR X (.builtin "len") (fun xs H Q => ∃ a, xs = [.ref a] ∧ H a = some (.dK []) ∧ Q (.int 0) H) := by
  intro pins s σ H xs us Q I r h
  obtain ⟨a, rfl, e, q⟩ := h
  obtain ⟨u, rfl, rx⟩ := vals1 r
  cases rx
  obtain ⟨_, ns, vs, kv, dd⟩ := I.hok a _ e
  have l : vs = [] := by
    have := Paired.length kv
    exact List.length_eq_zero_iff.mp this.symm
  subst l
  exact call_len_dict ns dd (by decide) ⟨.int 0, H, I.tok _, ⟨_, rfl⟩, q⟩
theorem call_lenB {X : Cx} : CallR X (.builtin "len") (fun xs H Q => (∃ a, xs = [.ref a] ∧ H a = some (.dK []) ∧ Q (.int 0) H) ∨ ∃ a L, xs = [.ref a] ∧ H a = some (DicTO a L) ∧ Q (.int (L.length : Nat)) H) := by
  intro pins s σ H xs us Q I r h
  rcases h with h | h
  · exact call_lenE pins s σ H xs us Q I r h
  · exact call_lenD pins s σ H xs us Q I r h
def gLenD : G1 := fun ds Q => match ds with | [.dict kvs] => Q (.int (kvs.length : Nat)) | _ => False
theorem cd_lenD {X : Cx} : CallD X (.builtin "len") gLenD := by
  refine ⟨_, call_lenB, fun p F H vs ds Qd Q f hv hg q => ?_⟩
  unfold gLenD at hg
  split at hg
  · cases hv with
    | cons h t =>
      cases t
      cases h with
      | dct h => exact .inl ⟨_, rfl, f.sub _ _ h, q _ _ F H (Ext.refl f.sub) (.int _) hg⟩
      | @dcT a L ds kvs hF hk hv e =>
        refine .inr ⟨a, L, rfl, f.sub _ _ hF, ?_⟩
        have el : ((L.length : Nat) : Int) = ((‹List (PyData × PyData)›.length : Nat) : Int) := by
          rw [e, List.length_zip, List.length_map, ← hv.length, List.length_map]; simp
        rw [el]
        exact q _ _ F H (Ext.refl f.sub) (.int _) hg
  · exact hg.elim
end DL


namespace DL
open PySem PySem.Spec PyProof.Rows L2
/-! ### a, b = x, y: two stores, new lists and dicts among them -/
section
variable {X : Cx} {pos px py pt : Pos} {a b : Expr} {kt k2 : Nat} {pt2 : Pos}
def dPar2z (i j : Nat) (t u : DZT) : DS := fun D ρ => t ρ fun r1 => u ρ fun r2 => D.nx ((ρ.set i r1.sl).set j r2.sl)
theorem ds_par2z (i j : Nat) {y z : Str} {t u : DZT} (hc : X.calm = true) (hN : X.N.Nodup) (ha : DZ X a t) (hb : DZ X b u) (hij : i ≠ j := by decide) (hi : X.N[i]? = some y := by rfl) (hj : X.N[j]? = some z := by rfl)
    (hy : X.env.scope.names.lookup y = some .local := by rfl) (hz : X.env.scope.names.lookup z = some .local := by rfl)
    (hw : swappedStores [.Tuple [.Name y px, .Name z py] kt pt] (.Tuple [a, b] k2 pt2) X.env = pure (some [y, z]) := by rfl)
    (hs : swapsWithSole [.Tuple [.Name y px, .Name z py] kt pt] (.Tuple [a, b] k2 pt2) pos.line X.env = pure false := by rfl)
    (e1 : starEach [a, b] X.env = (false, eval a X.env) :: starEach [b] X.env := by rfl) (e2 : starEach [b] X.env = (false, eval b X.env) :: starEach [] X.env := by rfl) :
    DP X (.Assign [.Tuple [.Name y px, .Name z py] kt pt] (.Tuple [a, b] k2 pt2) pos) (dPar2z i j t u) := by
  refine PS.wk (ps_par hc hN hi hj hij hy hz (pa_cons ha (pa_cons hb pa_nil e2) e1) hw hs) fun D σ H ⟨p, H0, F0, F, ρ, Dd, f, x, r, q, k⟩ => ?_
  refine ⟨p, H0, F, ρ, _, x.fit f, r, q, fun r1 v1 F1 H1 y1 z1 q1 => ?_⟩
  have x1 := x.trans f y1
  refine ⟨p, H0, F1, ρ, _, x1.fit f, r.ext y1, q1, fun r2 v2 F2 H2 y2 z2 q2 => ?_⟩
  have x2 := x1.trans f y2
  refine ⟨v1, v2, rfl, k.nx _ F2 H2 _ (y1.ff.trans y2.ff) x2 ?_ q2⟩
  have ra := (r.ext y1).putZ f x r.live i z1
  exact (ra.ext y2).putZ f x1 ra.live j z2
end
end DL


namespace DLT
open PySem
open Sem (wp)
open AutoSeq1
theorem list_extend_LT (l : Addr) (items : Array Value) (n : Nat) (b : Addr) (items2 : Array Value) (n2 : Nat) (dd2 : Option Addr) (sl2 : Array (Option Value)) (hc0 : ¬(!items.isEmpty && Builtin.List.listTooLong (items.size + items2.size)) = true) (hc1 : items.size ≤ sizeLine) (hs2 : items.size + items2.size ≤ sizeLine + 1 := by seq_fits) :
    Meets (Builtin.«list.extend» ⟨[.ref l, .ref b], []⟩) (fun _ R s => s.heap.get? l = some { cls := .type "list", dict := none, data := .seq items n, slots := #[] } ∧ s.heap.get? b = some { cls := .type "tuple", dict := dd2, data := .seq items2 n2, slots := sl2 } ∧ R (.ok (.ret Value.none)) { s with heap := s.heap.update l (Obj.mapSeq fun x => x ++ items2), toks := s.toks }) :=
  .of_wp fun prog w A R s h => by
    obtain ⟨hp, g, d, tk, os⟩ := s; obtain ⟨hl, hb, h⟩ := h; have f1 := idx_int; have f2 := sub_tuple_tuple; have f3 := sub_list_list; have f4 := sub_tuple_list; have f5 := sub_list_tuple;
    have hz' : (items ++ items2).size ≤ sizeLine + 1 := by rw [Array.size_append]; exact hs2
    wp_walk using (wpAny_updateSeq hl rfl (hz := hc1) (_hz' := hz')), wpAny_loadPart' hl, wpAny_loadPart' hb; exact ⟨_, rfl, h⟩
end DLT
namespace DL
open PySem PySem.Spec PyProof.Rows L2
/-! ### len(set(e)) -/
section
variable {X : Cx} {pos p1 p2 p3 : Pos} {e : Expr} {te : DT}
theorem call_lenSetR : CallR X (.builtin "len") (fun xs H Q => ∃ a L, xs = [.ref a] ∧ H a = some (SetTO X.prog X.w a L) ∧ (∀ p ∈ L, SqT X.K H p.1 (p.2.map V.int)) ∧ ((L.map (·.2)).Nodup → Q (.int (L.length : Nat)) H)) := by
  intro pins s σ H xs us Q I r h
  obtain ⟨a, L, rfl, ea, hL, q⟩ := h
  obtain ⟨u, rfl, rx⟩ := vals1 r
  cases rx
  obtain ⟨es, ep, t, R⟩ := ((I.hok a _ ea).1 : SetT0 X.prog X.w s.heap a L).full fun p hp => I.isT (hL p hp)
  obtain ⟨o, ho, hex, hd⟩ := R.ob
  have sz := R.size
  have fw := R.few
  refine call_len_set ho hex hd R.fits (by omega) ?_
  rw [sz]
  exact ⟨.int (L.length : Nat), H, I.tok _, ⟨_, rfl⟩, q R.nd⟩
def dLenSet (t : DT) : DT := fun ρ Q => t ρ fun d => ∃ zs, TupsAs d zs ∧ zs.length < 64 ∧ ∀ ws : List (List Int), ws.Nodup → (∀ z, z ∈ ws ↔ z ∈ zs) → Q (.int (ws.length : Nat))
theorem de_lenSet (hc : X.calm = true) (hu : X.A.units + 64 < cLine) (hm : X.mg "set" = none) (hm2 : X.mg "len" = none) (he : DE X e te) (hg : Gl X "set" := by rfl) (hv : bootBuiltins "set" = some (.type "set") := by decide +kernel) (hg2 : Gl X "len" := by rfl) (hv2 : bootBuiltins "len" = some (.builtin "len") := by decide +kernel)
    (hn : starEach [e] X.env = (false, eval e X.env) :: starEach [] X.env := by rfl) (hpl : (backTo p2 (starEach [] X.env)).any (·.1) = false := by rfl)
    (hn2 : starEach [.Call (.Name "set" p1) [e] [] p2] X.env = (false, eval (.Call (.Name "set" p1) [e] [] p2) X.env) :: starEach [] X.env := by rfl) (hpl2 : (backTo pos (starEach [] X.env)).any (·.1) = false := by rfl) :
    DE X (.Call (.Name "len" p3) [.Call (.Name "set" p1) [e] [] p2] [] pos) (dLenSet te) := by
  refine PE.wk (pe_callB call_lenSetR hg2 hm2 hv2 (pa_cons (pe_callTy (cr_setA hc hu) hg hm hv (pa_cons he pa_nil hn) (by decide) (by decide) hn hpl) pa_nil hn2) (by decide) (by decide) hn2 hpl2) fun σ H Q ⟨p, H0, F, ρ, Qd, f, r, q, k⟩ => ?_
  refine ⟨p, H0, F, ρ, _, f, r, q, fun d v F' H' x hv ⟨zs, ta, hl, hq⟩ => ?_⟩
  obtain ⟨l, ks, rfl, hs, ek, hk⟩ := tupsAs_of hv ta
  have fx := x.fit f
  refine ⟨l, ks, rfl, hs.imp (sql_same x.fh) (sqt_same x.fh), fun q hq => sqt_same x.fh (hk q hq), ?_, fun a L ha h1 h2 => ?_⟩
  · have z := congrArg List.length ek
    rw [List.length_map] at z
    omega
  have j := Ext.junk fx (o := SetTO X.prog X.w a L) ha
  refine ⟨a, L, rfl, upd_same, fun q hq => sqt_same j.fh (hk q (h1 q hq)), fun nd => ?_⟩
  have q2 := hq (L.map (·.2)) nd fun z => by
    rw [ek]
    constructor
    · intro hz
      obtain ⟨q, m, rfl⟩ := List.mem_map.mp hz
      exact List.mem_map.mpr ⟨q, h1 q m, rfl⟩
    · intro hz
      obtain ⟨q, m, rfl⟩ := List.mem_map.mp hz
      exact h2 q m
  rw [List.length_map] at q2
  exact k _ _ F' _ (x.trans f j) (.int _) q2
/-! ### < of data that are alike -/
theorem op_ltA (hu : X.A.units + 64 < cLine) : OpR X (compareOp .Lt) (fun x y H Q => ∃ d e, Dp X.K H x d ∧ Dp X.K H y e ∧ PySem.W.alike d e = true ∧ d ≠ .none ∧ d.depth ≤ 60 ∧ Q (.bl (PySem.W.dataLt d e)) H) := by
  intro pins s σ H x y v u Q I rx ry h
  obtain ⟨d, e, hd, he, al, nn, dp, q⟩ := h
  obtain ⟨as, r1⟩ := Dp.reads I d x v hd rx
  obtain ⟨bs, r2⟩ := Dp.reads I e y u he ry
  have m : min d.depth e.depth ≤ 60 := Nat.le_trans (Nat.min_le_left _ _) dp
  show wpAny (model X.prog X.w) X.A (richCompare .Lt v u) _ _ s
  exact PySem.W.rcLt_alike d e X.A s v u as bs r1 r2 al nn (by omega) _ _ _ _ ⟨.bl _, H, I, rfl, q⟩
def gLtA : G2 := fun d e Q => ((!d.hasDict && !e.hasDict && PySem.W.alike d e) = true ∧ isNone d = false ∧ d.depth ≤ 60) ∧ Q (.bool (PySem.W.dataLt d e))
theorem od_ltA (hu : X.A.units + 64 < cLine) : OpD X (compareOp .Lt) gLtA := by
  refine ⟨_, op_ltA hu, fun p F H x y d e Qd Q f rx ry hg q => ?_⟩
  obtain ⟨⟨h, hn, hd⟩, hq⟩ := hg
  simp only [Bool.and_eq_true, Bool.not_eq_true'] at h
  exact ⟨d, e, (rx.mono f.sub).dp h.1.1, (ry.mono f.sub).dp h.1.2, h.2, fun z => by (rw [z] at hn; cases hn), hd, q _ _ F H (Ext.refl f.sub) (.bl _) hq⟩
/-! ### sorted(x), x an empty list or of one item -/
theorem cr_sort1 : CallR X (.builtin "sorted") (fun vs H Q => ∃ (a : Addr) (xs : List V), vs = [V.ref a] ∧ SqL X.K H a xs ∧ xs.length ≤ 1 ∧ ∀ p, H p = none → Q (.ref p) (upd H p (.lst xs))) := by
  intro pins s σ H vs us Q I r h
  obtain ⟨a, xs, rfl, hs, hl, q⟩ := h
  rw [Vals.ref1 r]
  obtain ⟨its, rv, hi, hz⟩ := I.list hs
  have ln := rv.length
  refine Srt.sorted_any hi.isList (by rw [sizeLine_eq]; omega) (fun h2 => absurd h2 (by omega)) fun out pm => ?_
  have eo : out = its := by
    match its, ln, pm with
    | [], _, pm => exact pm.eq_nil
    | [y], _, pm => exact List.perm_singleton.mp pm
    | _ :: _ :: _, ln, _ => simp at ln; omega
  subst eo
  obtain ⟨ep, he'⟩ := PyProof.Rows.sortedAll_at s.heap out out.toArray
  exact ⟨.ref _, upd H (s.heap.objs.size + 1) (.lst xs), I.laid (t' := s.toks) (fun _ _ => PyProof.Rows.sortedAll_old) (Nat.le_succ _) ⟨by rw [sizeLine_eq]; omega, out, ep, rv, he'⟩, rfl, q _ (I.hok.fresh (Nat.le_succ _))⟩
def gSort1 : G1 := fun ds Q => match ds with | [.list xs] => xs.length ≤ 1 ∧ Q (.list xs) | _ => False
theorem cd_sort1 : CallD X (.builtin "sorted") gSort1 := by
  refine ⟨_, cr_sort1, fun p F H vs ds Qd Q f hv hg q => ?_⟩
  unfold gSort1 at hg
  split at hg
  · cases hv with
    | cons h t =>
      cases t
      cases h with
      | @lst a ys _ h1 h2 =>
        refine ⟨a, ys, rfl, sql_same f.sub h1, by rw [h2.length]; exact hg.1, fun l hl => ?_⟩
        have x := Ext.new f (o := .lst ys) hl
        exact q _ _ _ _ x (.lst (.of upd_same) (h2.mono x.ff)) hg.2
  · exact hg.elim
theorem CallR.or {f : Value} {r r' : List V → Hp → VK → Prop} (h : CallR X f r) (h' : CallR X f r') : CallR X f (fun xs H Q => r xs H Q ∨ r' xs H Q) := by
  intro pins s σ H xs us Q I rv q
  rcases q with q | q
  · exact h pins s σ H xs us Q I rv q
  · exact h' pins s σ H xs us Q I rv q
theorem CallD.or {f : Value} {g g' : G1} (h : CallD X f g) (h' : CallD X f g') : CallD X f (fun ds Q => g ds Q ∨ g' ds Q) := by
  obtain ⟨r, h1, h2⟩ := h
  obtain ⟨r', h1', h2'⟩ := h'
  refine ⟨_, CallR.or h1 h1', fun p F H vs ds Qd Q f hv hg q => ?_⟩
  rcases hg with hg | hg
  · exact .inl (h2 p F H vs ds Qd Q f hv hg q)
  · exact .inr (h2' p F H vs ds Qd Q f hv hg q)
def gSortA : G1 := fun ds Q => gSort ds Q ∨ gSort1 ds Q
theorem cd_sortedA (hu : X.A.units + 64 < cLine) : CallD X (.builtin "sorted") gSortA := CallD.or (cd_sorted hu) cd_sort1
/-! ### x.extend(e), e a list or a tuple -/
def rExtT (K : PySem.W.Frag) : V → List V → Hp → VK → Prop := fun x vs H Q => ∃ l b xs zs, x = .ref l ∧ vs = [.ref b] ∧ H l = some (.lst xs) ∧ (SqL K H b zs ∨ SqT K H b zs) ∧ xs.length + zs.length ≤ sizeLine ∧ Q .non (upd H l (.lst (xs ++ zs)))
theorem mt_extT : MtM X "list.extend" (rExtT X.K) := by
  intro pins s σ H x vs v us Q I rx rv h
  obtain ⟨l, b, xs, zs, rfl, rfl, hH, hB, hz, q⟩ := h
  rcases hB with hB | hB
  · exact mt_extL pins s σ H _ _ v us Q I rx rv ⟨l, b, xs, zs, rfl, rfl, hH, hB, hz, q⟩
  cases rx
  obtain ⟨u, rfl, ru⟩ := rv.one
  cases ru
  obtain ⟨z, its, n, r, hl, e⟩ := I.lstM hH
  obtain ⟨its2, r2, ⟨⟨cls2, dd2, data2, sl2⟩, ho2, hc2, n2, hd2⟩, hl2⟩ := I.tuple hB
  simp only at hc2 hd2
  subst hc2 hd2
  have hl3 := r2.length
  have hsz : its.toArray.size + its2.toArray.size ≤ sizeLine := by rw [List.size_toArray, List.size_toArray]; omega
  have hlong : ¬ (!its.toArray.isEmpty && Builtin.List.listTooLong (its.toArray.size + its2.toArray.size)) = true := by
    rw [notLongL hsz, Bool.and_false]
    exact Bool.false_ne_true
  refine call_meets F.slot_list_extend ⟨_, e, rfl⟩ F.entry_list_extend (F.args_list_extend_2 _ _)
    (DLT.list_extend_LT l its.toArray n b its2.toArray n2 dd2 sl2 hlong (by rw [List.size_toArray]; omega) (by omega)) ⟨e, ho2, ?_⟩
  refine ⟨.non, _, I.lset (its' := its ++ its2) hH e (by simp) (r.append r2) ?_, rfl, q⟩
  rw [List.length_append]
  omega
def dExtA (i : Nat) (t : DT) : DS := fun D ρ => match ρ[i]? with | some (.own ds) => t ρ (dSeqQ fun es => (noTmp ρ = true ∧ ds.length + es.length ≤ 16777216) ∧ D.nx (ρ.set i (.own (ds ++ es)))) | _ => False
theorem ds_extA (i : Nat) {y : Str} {pn pa pc : Pos} (he : DE X e te) (hi : X.N[i]? = some y := by rfl) (hv : Vis X.env.scope y := by first | exact Or.inl rfl | exact Or.inr (Or.inl rfl) | exact Or.inr (Or.inr rfl)) (hd : (y == ("__debug__" : Str)) = false := by decide) (hcd : (y == ("__classdict__" : Str)) = false := by decide)
    (hbase : attributeBase (.Name y pn) "extend" X.env (eval (.Name y pn) X.env) = eval (.Name y pn) X.env := by rfl)
    (hfew : ((backTo pc (starEach (e :: []) X.env)).all (fun x => !x.1) && (backToKw pc (keywordEach [] X.env)).all (fun x => x.1.isSome)
      && decide ((e :: ([] : List Expr)).length + ([] : List Keyword).length + (if ([] : List Keyword).isEmpty then 0 else 1) < 30)) = true := by rfl)
    (hline : (pa.endLine == pc.line) = true := by rfl) (hs : starEach (e :: []) X.env = (false, eval e X.env) :: starEach [] X.env := by rfl) (hplain : (backTo pc (starEach [] X.env)).any (·.1) = false := by rfl)
    (hsw : swapsWith (.Call (.Attribute (.Name y pn) "extend" pa) [e] [] pc) none pos.line X.env = pure false := by rfl) :
    DP X (.Expr (.Call (.Attribute (.Name y pn) "extend" pa) [e] [] pc) pos) (dExtA i te) := by
  refine PS.wk (ps_expr (pe_bm PySem.F.plainAttrs_list PySem.F.slot_list_extend PySem.F.type_list_extend mt_extT (pe_var hi hv hd hcd) (pa_cons he pa_nil hs) hbase hfew hline hs hplain) hsw) fun D σ H ⟨p, H0, F0, F, ρ, Dd, f, x, r, q, k⟩ => ?_
  unfold dExtA at q
  split at q
  · rename_i ds ei
    obtain ⟨a, vs, es, ea, h0, n, hp, eh, rv⟩ := own_at r ei
    refine ⟨.ref a, es, .inl ⟨rfl, vs, .of eh⟩, p, H0, F, ρ, _, x.fit f, r, q, fun d v F' H' y hv hq => ?_⟩
    have eh' := y.hh a _ hp eh
    have n' := y.fr a _ eh n
    cases d with
    | list es =>
      cases hv with
      | @lst b ws _ hb hr =>
        refine ⟨a, b, vs, ws, rfl, rfl, eh', .inl (sql_same y.fh hb), by rw [sl_eq, rv.length, hr.length]; exact hq.1.2, ?_⟩
        exact k.nx σ F' _ _ y.ff ((x.trans f y).write h0 n' hp) ((r.ext y).write ei ea ((rv.mono y.ff).append hr) hq.1.1) hq.2
    | tuple es =>
      cases hv with
      | @tup b ws _ hb hr =>
        refine ⟨a, b, vs, ws, rfl, rfl, eh', .inr (sqt_same y.fh hb), by rw [sl_eq, rv.length, hr.length]; exact hq.1.2, ?_⟩
        exact k.nx σ F' _ _ y.ff ((x.trans f y).write h0 n' hp) ((r.ext y).write ei ea ((rv.mono y.ff).append hr) hq.1.1) hq.2
    | _ => exact hq.elim
  · exact q.elim
end
end DL


namespace DL
open PySem PySem.Spec PyProof.Rows L2
/-! ### for x in y[z.pop()] -/
section
variable {X : Cx}
theorem pi_of_pe {l tg : Expr} {te : TE} (hl : PE X l te) : PI X tg l (fun σ H R => te σ H fun v H1 => (∃ a, v = .ref a ∧ (∃ xs, SqL X.K H1 a xs) ∧ R (Itl X.K a) H1) ∨ ∃ a, v = .ref a ∧ (∃ xs, SqT X.K H1 a xs) ∧ R (Itt X.K a) H1) := by
  refine ⟨fun pins s σ H R I q => ?_⟩
  refine thn (hl.run pins s σ H _ I q) fun v s1 ⟨x, H1, I1, r1, q1⟩ => ?_
  rcases q1 with ⟨a, rfl, ⟨xs, hs⟩, q⟩ | ⟨a, rfl, ⟨xs, hs⟩, q⟩
  · cases r1; exact iter_l I1 hs q
  · cases r1; exact iter_t I1 hs q
def dForPop (iy il : Nat) (g : DGT) (tb : DS) : DS := fun D ρ => ∃ kvs z c ds, ρ[iy]? = some (.dat (dictD kvs)) ∧ ρ[il]? = some (.own ds) ∧ ds.getLast? = some (tupI z) ∧ lookT kvs z = some c ∧ noTmp ρ = true ∧
  dSeqQ (fun es => loopD g tb D es (ρ.set il (.own ds.dropLast))) c
theorem ds_forPop (iy il : Nat) {y l : Str} {p1 p2 pa pc ps pos : Pos} {tg : Expr} {vs : List Nat} {g : DGT} {body : List Stmt} {tb : DS} (hp : PassesOwn (model X.prog X.w) X.A X.env X.xe) (hc : X.calm = true) (hu : X.A.units + 1 < cLine)
    (hg : DG X tg vs g) (hb : DPs X body tb) (hi : X.N[iy]? = some y := by rfl) (hil : X.N[il]? = some l := by rfl)
    (hv : Vis X.env.scope y := by first | exact Or.inl rfl | exact Or.inr (Or.inl rfl) | exact Or.inr (Or.inr rfl)) (hvl : Vis X.env.scope l := by first | exact Or.inl rfl | exact Or.inr (Or.inl rfl) | exact Or.inr (Or.inr rfl))
    (hd : (y == ("__debug__" : Str)) = false := by decide) (hcd : (y == ("__classdict__" : Str)) = false := by decide) (hdl : (l == ("__debug__" : Str)) = false := by decide) (hcdl : (l == ("__classdict__" : Str)) = false := by decide)
    (hbase : attributeBase (.Name l p2) "pop" X.env (eval (.Name l p2) X.env) = eval (.Name l p2) X.env := by rfl) (hline : (pa.endLine == pc.line) = true := by rfl)
    (hs : ∀ x, foldedSetIterable (.Subscript (.Name y p1) (.Call (.Attribute (.Name l p2) "pop" pa) [] [] pc) ps) X.env x = pure x := by intro _; rfl) :
    DP X (.For tg (.Subscript (.Name y p1) (.Call (.Attribute (.Name l p2) "pop" pa) [] [] pc) ps) body [] pos) (dForPop iy il g tb) := by
  refine PS.wk (ps_for hp hc (pi_of_pe (pe_dgetT hu (pe_var hi hv hd hcd) (pe_bm0 PySem.F.plainAttrs_list PySem.F.slot_list_pop PySem.F.type_list_pop mt_pop (pe_var hil hvl hdl hcdl) hbase hline) (fun _ _ => rfl))) hg hb hs) fun D σ H ⟨p, H0, F0, F, ρ, Dd, f, x, r, q, k⟩ => ?_
  obtain ⟨kvs, z, c, ds, ei, el, ez, elk, nt, q⟩ := q
  obtain ⟨vy, ey, ry⟩ := r.all iy _ ei
  obtain ⟨a', vs', es, ea, h0, n, hpp, eh, rv⟩ := own_at r el
  obtain ⟨y', ey', ry'⟩ := rv.get (by rw [List.getLast?_eq_getElem?] at ez; exact ez)
  have x1 := x.write (o := .lst vs'.dropLast) h0 n hpp
  have r1 := r.write (vs' := vs'.dropLast) (ds' := ds.dropLast) el ea rv.dropLast nt
  have f1 := x1.fit f
  rcases dict_inv ry rfl with e | ⟨a, L, dd, rfl, hF, hk, hvv, e⟩
  · rw [List.map_eq_nil_iff] at e
    subst e
    cases elk
  obtain ⟨v, gg, rvv⟩ := look_get e hvv elk
  cases ry' with
  | @tup b xs _ h1 h2 =>
    have ex := h2.ints
    subst ex
    refine ⟨.ref a, slv_of ey, .ref a', es, .inl ⟨rfl, vs', .of eh⟩, a', vs', _, rfl, rfl, eh, by rw [rv.length]; exact ey', a, b, z, L, v, rfl, rfl, ⟨f1.sub _ _ hF, fun q hq => sqt_same f1.sub (hk q hq)⟩, sqt_same f1.sub h1, gg, ?_⟩
    refine walk_data (p := p) (k := kw X) (H0 := H0) (R := fun J H1 => ∃ W : Nat → Nat → L2.St → Hp → Prop, (∃ m, W 0 m σ H1) ∧ ∀ (i m : Nat) (σ : L2.St) (H : Hp), W i m σ H →
      J.stop i H ∧ D.nx σ H ∨ J.go i H ∧ ∃ N : L2.St → Hp → Prop, (∀ (σ' : L2.St) (H' : Hp), N σ' H' → ∃ m', m' < m ∧ W (i + 1) m' σ' H') ∧ ∀ (x : V) (H' : Hp), J.yld i H x H' →
        tDG (kw X) vs g x σ H' fun σ2 H2 => tDS (kw X) tb { nx := N, rt := D.rt, bk := D.nx, ct := N } σ2 H2) (fun cs J F1 H1 y hw hq => ?_) (Ext.refl f1.sub) rvv q
    obtain ⟨G, Y, w, hG, hY⟩ := hw.w
    have x1 := x1.trans f y
    have k1 := k.mono y.ff
    refine for_it w (fun i σ' H' => ∃ F' ρ', Same F1 F' ∧ Ext p F0 H0 F' H' ∧ Rep (kw X) p H0 F' H' σ' ρ' ∧ loopD g tb Dd (cs.drop i) ρ') ⟨F1, _, Same.refl _, x1, r1.ext y, hq⟩ ?_ ?_ ?_
    · rintro i σ' H' _ ⟨F', ρ', s, x', _, _⟩
      exact hG F' H' s (x'.fit f)
    · rintro i v σ' H2 H3 hi ⟨F', ρ', s, x', r', q'⟩ hy
      obtain ⟨F3, d, e3, hd, hv⟩ := hY i F' H2 v H3 hi s (x'.fit f) hy
      have dr : cs.drop i = d :: cs.drop (i + 1) := by
        obtain ⟨h1, h2⟩ := List.getElem?_eq_some_iff.mp hd
        rw [List.drop_eq_getElem_cons h1, h2]
      rw [dr] at q'
      have x3 := x'.trans f e3
      refine ⟨p, H0, F3, ρ', d, _, x3.fit f, r'.ext e3, hv, q', fun σ4 ρ4 r4 _ q4 => ?_⟩
      have s3 := s.trans e3.ff
      refine ⟨p, H0, F0, F3, ρ4, _, f, x3, r4, q4, ?_⟩
      exact ⟨fun σ5 F5 H5 ρ5 s5 x5 r5 q5 => ⟨F5, ρ5, s3.trans s5, x5, r5, q5⟩, fun σ5 F5 H5 ρ5 s5 x5 r5 q5 => k1.nx σ5 F5 H5 ρ5 (s3.trans s5) x5 r5 q5,
        fun σ5 F5 H5 ρ5 s5 x5 r5 q5 => ⟨F5, ρ5, s3.trans s5, x5, r5, q5⟩, k1.rt⟩
    · rintro σ' H' ⟨F', ρ', s, x', r', q'⟩
      rw [List.drop_length] at q'
      exact k1.nx σ' F' H' ρ' s x' r' q'
end
end DL


namespace DL
open PySem PySem.Spec PyProof.Rows L2
/-! ### x in d, x not in d, d a dict of data, empty or not -/
section
variable {X : Cx}
theorem emptyH {P : Program} {w : World} {h : Heap} {a : Addr} (d : h.DictOf (mixKind P w) a []) : h.DictOfH (tupleKind (intKind P w)) a [] := by
  obtain ⟨o, es, ep, ho, hx, hd, _, hp, _⟩ := d
  refine ⟨o, es, ep, ho, hx, hd, ?_, (fun x hx => nomatch hx), List.nodup_nil⟩
  cases e : es.toList with
  | nil => rfl
  | cons x r => rw [e] at hp; cases hp
def rInE (X : Cx) (neg : Bool) : R2 := fun x y H Q => ∃ (a b : Addr) (k : List Int), x = .ref b ∧ y = .ref a ∧ H a = some (.dK []) ∧ SqT X.K H b (k.map V.int) ∧ Q (.bl neg) H
theorem op_inE (hu : X.A.units + 1 < cLine) : OpR X (compareOp .In) (rInE X false) := by
  intro pins s σ H x y v u Q I rx ry h
  obtain ⟨a, b, k, rfl, rfl, ha, hb, q⟩ := h
  cases rx
  cases ry
  obtain ⟨_, ns, vs, kv, dd⟩ := I.hok a _ ha
  have l : vs = [] := List.length_eq_zero_iff.mp (Paired.length kv).symm
  subst l
  refine wpAny_in_heap (tupleKind_room_in1 hu) (I.isT hb) ns (emptyH dd) ?_
  exact ⟨.bl false, H, I.tok _, rfl, q⟩
theorem op_ninE (hu : X.A.units + 1 < cLine) : OpR X (compareOp .NotIn) (rInE X true) := by
  intro pins s σ H x y v u Q I rx ry h
  obtain ⟨a, b, k, rfl, rfl, ha, hb, q⟩ := h
  cases rx
  cases ry
  obtain ⟨_, ns, vs, kv, dd⟩ := I.hok a _ ha
  have l : vs = [] := List.length_eq_zero_iff.mp (Paired.length kv).symm
  subst l
  refine wpAny_notIn_heap (tupleKind_room_in1 hu) (I.isT hb) ns (emptyH dd) ?_
  exact ⟨.bl true, H, I.tok _, rfl, q⟩
def gInDD (neg : Bool) : G2 := fun d e Q => ∃ kvs z, e = dictD kvs ∧ d = tupI z ∧ Q (.bool (if neg then !(lookT kvs z).isSome else (lookT kvs z).isSome))
theorem look_zip {K : PySem.W.Frag} {F : Hp} {z : List Int} : ∀ {L : DL3} {kvs : List (List Int × PyData)} {ds : List PyData}, kvs.map (fun p => (tupI p.1, p.2)) = (L.map fun p => PyData.tuple (p.1.map PyData.int)).zip ds → DVs K F (L.map fun p => p.2.2) ds → (lookT kvs z).isSome = (getT L z).isSome
  | [], kvs, ds, e, r => by
    cases kvs with
    | nil => rfl
    | cons q kvs => cases e
  | p :: L, kvs, ds, e, r => by
    cases r with
    | @cons _ _ d ds' h1 h2 =>
      cases kvs with
      | nil => cases e
      | cons q kvs =>
        rw [List.map_cons, List.map_cons, List.zip_cons_cons] at e
        injection e with e1 e2
        injection e1 with e1 e3
        have ek : q.1 = p.1 := tupI_inj e1
        rw [lookT_cons, getT_cons]
        by_cases z1 : q.1 = z
        · rw [if_pos z1, if_pos (ek.symm.trans z1)]; rfl
        · rw [if_neg z1, if_neg (fun y => z1 (ek.trans y))]
          exact look_zip e2 h2
theorem dict_inv2 {K : PySem.W.Frag} {F : Hp} {v : V} {d : PyData} {kvs : List (PyData × PyData)} (h : DV K F v d) (e : d = .dict kvs) : (kvs = [] ∧ ∃ a, v = .ref a ∧ F a = some (.dK [])) ∨ ∃ (a : Addr) (L : DL3) (ds : List PyData), v = .ref a ∧ F a = some (DicTO a L) ∧ (∀ p ∈ L, SqT K F p.2.1 (p.1.map V.int)) ∧ DVs K F (L.map fun p => p.2.2) ds ∧ kvs = (L.map fun p => PyData.tuple (p.1.map PyData.int)).zip ds := by
  cases h with
  | dct h => injection e with e; exact .inl ⟨e.symm, _, rfl, h⟩
  | dcT h k r z => injection e with e; subst e; exact .inr ⟨_, _, _, rfl, h, k, r, z⟩
  | _ => cases e
theorem inDD_of {neg : Bool} {p : Option Addr} {F H : Hp} {x y : V} {d e : PyData} {Qd : PyData → Prop} {Q : VK} (f : Fit p F H) (rx : DV X.K F x d) (ry : DV X.K F y e) (hg : gInDD neg d e Qd) (q : ∀ c z F' H', Ext p F H F' H' → DV X.K F' z c → Qd c → Q z H') :
    rInDT X neg x y H Q ∨ rInE X neg x y H Q := by
  obtain ⟨kvs, z, rfl, rfl, hq⟩ := hg
  cases rx with
  | @tup b xs _ h1 h2 =>
    have ex := h2.ints
    subst ex
    rcases dict_inv2 ry rfl with ⟨e, a, rfl, ha⟩ | ⟨a, L, ds, rfl, hF, hk, hv, e⟩
    · rw [List.map_eq_nil_iff] at e
      subst e
      refine .inr ⟨a, b, z, rfl, rfl, f.sub _ _ ha, sqt_same f.sub h1, ?_⟩
      cases neg
      · exact q _ _ F H (Ext.refl f.sub) (.bl _) hq
      · exact q _ _ F H (Ext.refl f.sub) (.bl _) hq
    · rw [look_zip e hv] at hq
      exact .inl ⟨a, b, z, L, rfl, rfl, ⟨f.sub _ _ hF, fun p hp => sqt_same f.sub (hk p hp)⟩, sqt_same f.sub h1, q _ _ F H (Ext.refl f.sub) (.bl _) hq⟩
theorem od_inDD (hu : X.A.units + 1 < cLine) : OpD X (compareOp .In) (gInDD false) := ⟨_, OpR.or (op_inDT hu) (op_inE hu), fun p F H x y d e Qd Q f rx ry hg q => inDD_of f rx ry hg q⟩
theorem od_ninDD (hu : X.A.units + 1 < cLine) : OpD X (compareOp .NotIn) (gInDD true) := ⟨_, OpR.or (op_notInDT hu) (op_ninE hu), fun p F H x y d e Qd Q f rx ry hg q => inDD_of f rx ry hg q⟩
end
end DL



namespace K25
open PySem PySem.Spec PyProof.Rows L2 DL
def top (i : Nat) : Stmt := PySem.Challenge.pw_laidbytwos_k25_whole_laid_or_a_lack.main.body.getD i (.Pass ⟨0, 0, 0, 0⟩)
abbrev s_is_count_to : Stmt := top 8
theorem sc_is_count_to : FnScope ["value", "most"] ["value", "most"] (defScope s_is_count_to) := ⟨rfl, rfl, rfl, by decide +kernel, rfl, by decide +kernel, by decide +kernel⟩
abbrev s_cell_is_right : Stmt := top 9
theorem sc_cell_is_right : FnScope ["value", "one"] ["value"] (defScope s_cell_is_right) := ⟨rfl, rfl, rfl, by decide +kernel, rfl, by decide +kernel, by decide +kernel⟩
abbrev s_are_rising : Stmt := top 10
theorem sc_are_rising : FnScope ["value", "one", "other"] ["value"] (defScope s_are_rising) := ⟨rfl, rfl, rfl, by decide +kernel, rfl, by decide +kernel, by decide +kernel⟩
abbrev s_some_cells : Stmt := top 11
theorem sc_some_cells : FnScope ["value", "one"] ["value"] (defScope s_some_cells) := ⟨rfl, rfl, rfl, by decide +kernel, rfl, by decide +kernel, by decide +kernel⟩
abbrev s_pinch_of : Stmt := top 12
theorem sc_pinch_of : FnScope ["cells", "known", "row", "column", "beside"] ["cells"] (defScope s_pinch_of) := ⟨rfl, rfl, rfl, by decide +kernel, rfl, by decide +kernel, by decide +kernel⟩
abbrev s_flaw_of : Stmt := top 13
theorem sc_flaw_of : FnScope ["value"] ["value"] (defScope s_flaw_of) := ⟨rfl, rfl, rfl, by decide +kernel, rfl, by decide +kernel, by decide +kernel⟩
abbrev s_floor_is_right : Stmt := top 14
theorem sc_floor_is_right : FnScope ["value"] ["value"] (defScope s_floor_is_right) := ⟨rfl, rfl, rfl, by decide +kernel, rfl, by decide +kernel, by decide +kernel⟩
abbrev s_lot_is_right : Stmt := top 15
theorem sc_lot_is_right : FnScope ["floor", "value", "one"] ["floor", "value"] (defScope s_lot_is_right) := ⟨rfl, rfl, rfl, by decide +kernel, rfl, by decide +kernel, by decide +kernel⟩
abbrev s_check_floor : Stmt := top 16
theorem sc_check_floor : FnScope ["floor"] ["floor"] (defScope s_check_floor) := ⟨rfl, rfl, rfl, by decide +kernel, rfl, by decide +kernel, by decide +kernel⟩
abbrev s_is_dark : Stmt := top 18
theorem sc_is_dark : FnScope ["cell"] ["cell"] (defScope s_is_dark) := ⟨rfl, rfl, rfl, by decide +kernel, rfl, by decide +kernel, by decide +kernel⟩
abbrev s_beside : Stmt := top 19
theorem sc_beside : FnScope ["cell", "row", "column"] ["cell"] (defScope s_beside) := ⟨rfl, rfl, rfl, by decide +kernel, rfl, by decide +kernel, by decide +kernel⟩
abbrev s_near_in : Stmt := top 20
theorem sc_near_in : FnScope ["lot", "found", "cell", "one"] ["lot"] (defScope s_near_in) := ⟨rfl, rfl, rfl, by decide +kernel, rfl, by decide +kernel, by decide +kernel⟩
abbrev s_way_from : Stmt := top 21
theorem sc_way_from : FnScope ["near", "partner", "begin", "back", "line", "turn", "here", "other"] ["near", "partner", "begin"] (defScope s_way_from) := ⟨rfl, rfl, rfl, by decide +kernel, rfl, by decide +kernel, by decide +kernel⟩
abbrev s_laid_along : Stmt := top 22
theorem sc_laid_along : FnScope ["partner", "back", "begin", "end", "other", "here", "later"] ["partner", "back", "begin", "end"] (defScope s_laid_along) := ⟨rfl, rfl, rfl, by decide +kernel, rfl, by decide +kernel, by decide +kernel⟩
abbrev s_most_pairs : Stmt := top 23
theorem sc_most_pairs : FnScope ["lot", "near", "partner", "cell", "back", "end"] ["lot"] (defScope s_most_pairs) := ⟨rfl, rfl, rfl, by decide +kernel, rfl, by decide +kernel, by decide +kernel⟩
abbrev s_is_laid : Stmt := top 24
theorem sc_is_laid : FnScope ["lot", "cell"] ["lot"] (defScope s_is_laid) := ⟨rfl, rfl, rfl, by decide +kernel, rfl, by decide +kernel, by decide +kernel⟩
abbrev s_come_to : Stmt := top 25
theorem sc_come_to : FnScope ["lot", "partner", "begins", "near", "found", "line", "other"] ["lot", "partner", "begins"] (defScope s_come_to) := ⟨rfl, rfl, rfl, by decide +kernel, rfl, by decide +kernel, by decide +kernel⟩
abbrev s_check_lot : Stmt := top 27
theorem sc_check_lot : FnScope ["floor", "lot"] ["floor", "lot"] (defScope s_check_lot) := ⟨rfl, rfl, rfl, by decide +kernel, rfl, by decide +kernel, by decide +kernel⟩
abbrev s_can_lay : Stmt := top 28
theorem sc_can_lay : FnScope ["floor", "lot"] ["floor", "lot"] (defScope s_can_lay) := ⟨rfl, rfl, rfl, by decide +kernel, rfl, by decide +kernel, by decide +kernel⟩
abbrev s_neighbours_in : Stmt := top 30
theorem sc_neighbours_in : FnScope ["lot", "cells", "near", "found", "cell"] ["lot", "cells"] (defScope s_neighbours_in) := ⟨rfl, rfl, rfl, by decide +kernel, rfl, by decide +kernel, by decide +kernel⟩
abbrev s_size_in : Stmt := top 31
theorem sc_size_in : FnScope ["lot", "cells"] ["lot", "cells"] (defScope s_size_in) := ⟨rfl, rfl, rfl, by decide +kernel, rfl, by decide +kernel, by decide +kernel⟩
abbrev s_lot_of_lot : Stmt := top 32
theorem sc_lot_of_lot : FnScope ["floor", "lot", "value", "cell"] ["floor", "lot", "value"] (defScope s_lot_of_lot) := ⟨rfl, rfl, rfl, by decide +kernel, rfl, by decide +kernel, by decide +kernel⟩
abbrev s_has_one_colour : Stmt := top 33
theorem sc_has_one_colour : FnScope ["cells", "cell"] ["cells"] (defScope s_has_one_colour) := ⟨rfl, rfl, rfl, by decide +kernel, rfl, by decide +kernel, by decide +kernel⟩
abbrev s_lack_by : Stmt := top 34
theorem sc_lack_by : FnScope ["lot", "partner", "colour", "begins", "cell"] ["lot"] (defScope s_lack_by) := ⟨rfl, rfl, rfl, by decide +kernel, rfl, by decide +kernel, by decide +kernel⟩
abbrev s_check_cells : Stmt := top 35
theorem sc_check_cells : FnScope ["floor", "lot", "cells"] ["floor", "lot", "cells"] (defScope s_check_cells) := ⟨rfl, rfl, rfl, by decide +kernel, rfl, by decide +kernel, by decide +kernel⟩
abbrev s_neighbours : Stmt := top 36
theorem sc_neighbours : FnScope ["floor", "lot", "cells"] ["floor", "lot", "cells"] (defScope s_neighbours) := ⟨rfl, rfl, rfl, by decide +kernel, rfl, by decide +kernel, by decide +kernel⟩
abbrev s_is_lack : Stmt := top 37
theorem sc_is_lack : FnScope ["floor", "lot", "value"] ["floor", "lot", "value"] (defScope s_is_lack) := ⟨rfl, rfl, rfl, by decide +kernel, rfl, by decide +kernel, by decide +kernel⟩
abbrev s_lack : Stmt := top 38
theorem sc_lack : FnScope ["floor", "lot"] ["floor", "lot"] (defScope s_lack) := ⟨rfl, rfl, rfl, by decide +kernel, rfl, by decide +kernel, by decide +kernel⟩
abbrev s_lack_size : Stmt := top 39
theorem sc_lack_size : FnScope ["floor", "lot", "cells"] ["floor", "lot", "cells"] (defScope s_lack_size) := ⟨rfl, rfl, rfl, by decide +kernel, rfl, by decide +kernel, by decide +kernel⟩
abbrev s__law_pot : Stmt := top 41
theorem sc__law_pot : FnScope ["script", "k", "cell"] ["script", "k"] (defScope s__law_pot) := ⟨rfl, rfl, rfl, by decide +kernel, rfl, by decide +kernel, by decide +kernel⟩
abbrev s__law_draw : Stmt := top 42
theorem sc__law_draw : FnScope ["pot", "many", "digit"] ["pot", "many"] (defScope s__law_draw) := ⟨rfl, rfl, rfl, by decide +kernel, rfl, by decide +kernel, by decide +kernel⟩
abbrev s__law_pick : Stmt := top 43
theorem sc__law_pick : FnScope ["pot", "some"] ["pot", "some"] (defScope s__law_pick) := ⟨rfl, rfl, rfl, by decide +kernel, rfl, by decide +kernel, by decide +kernel⟩
abbrev s__law_same : Stmt := top 44
theorem sc__law_same : FnScope ["told", "due", "one", "its"] ["told", "due"] (defScope s__law_same) := ⟨rfl, rfl, rfl, by decide +kernel, rfl, by decide +kernel, by decide +kernel⟩
abbrev s__law_dark : Stmt := top 45
theorem sc__law_dark : FnScope ["cell"] ["cell"] (defScope s__law_dark) := ⟨rfl, rfl, rfl, by decide +kernel, rfl, by decide +kernel, by decide +kernel⟩
abbrev s__law_pinch : Stmt := top 46
theorem sc__law_pinch : FnScope ["cells", "row", "column", "far"] ["cells"] (defScope s__law_pinch) := ⟨rfl, rfl, rfl, by decide +kernel, rfl, by decide +kernel, by decide +kernel⟩
abbrev s__law_floor : Stmt := top 47
theorem sc__law_floor : FnScope ["pot", "rows", "columns", "odds", "down", "right", "cells", "row", "turn", "spot", "column"] ["pot", "rows", "columns", "odds"] (defScope s__law_floor) := ⟨rfl, rfl, rfl, by decide +kernel, rfl, by decide +kernel, by decide +kernel⟩
abbrev s__law_beside : Stmt := top 48
theorem sc__law_beside : FnScope ["cell", "cells", "row", "column", "one"] ["cell", "cells"] (defScope s__law_beside) := ⟨rfl, rfl, rfl, by decide +kernel, rfl, by decide +kernel, by decide +kernel⟩
abbrev s__law_layings : Stmt := top 49
theorem sc__law_layings : FnScope ["cells", "found", "turn", "longer", "slabs", "left", "row", "column", "other", "cell"] ["cells"] (defScope s__law_layings) := ⟨rfl, rfl, rfl, by decide +kernel, rfl, by decide +kernel, by decide +kernel⟩
abbrev s__law_lot : Stmt := top 50
theorem sc__law_lot : FnScope ["pot", "cells", "cell"] ["pot", "cells"] (defScope s__law_lot) := ⟨rfl, rfl, rfl, by decide +kernel, rfl, by decide +kernel, by decide +kernel⟩
abbrev s__law_near : Stmt := top 51
theorem sc__law_near : FnScope ["lot", "cells", "found", "cell"] ["lot", "cells"] (defScope s__law_near) := ⟨rfl, rfl, rfl, by decide +kernel, rfl, by decide +kernel, by decide +kernel⟩
abbrev s__law_lots : Stmt := top 52
theorem sc__law_lots : FnScope ["cells", "found", "cell", "lot"] ["cells"] (defScope s__law_lots) := ⟨rfl, rfl, rfl, by decide +kernel, rfl, by decide +kernel, by decide +kernel⟩
abbrev s__law_greatest : Stmt := top 53
theorem sc__law_greatest : FnScope ["lot", "colour", "best", "some", "cells", "size", "least", "cell"] ["lot", "colour"] (defScope s__law_greatest) := ⟨rfl, rfl, rfl, by decide +kernel, rfl, by decide +kernel, by decide +kernel⟩
abbrev s__law_is_lack : Stmt := top 54
theorem sc__law_is_lack : FnScope ["lot", "value", "one", "part", "other"] ["lot", "value"] (defScope s__law_is_lack) := ⟨rfl, rfl, rfl, by decide +kernel, rfl, by decide +kernel, by decide +kernel⟩
abbrev s__law_one_right : Stmt := top 55
theorem sc__law_one_right : FnScope ["pot", "floor", "cells", "shown", "lot", "dark", "light", "due", "some", "turn", "colour", "value", "own", "kept", "flag", "cell", "one"] ["pot", "floor"] (defScope s__law_one_right) := ⟨rfl, rfl, rfl, by decide +kernel, rfl, by decide +kernel, by decide +kernel⟩
abbrev s__law_right : Stmt := top 56
theorem sc__law_right : FnScope ["pot", "turn"] ["pot"] (defScope s__law_right) := ⟨rfl, rfl, rfl, by decide +kernel, rfl, by decide +kernel, by decide +kernel⟩
abbrev s_law : Stmt := top 57
theorem sc_law : FnScope ["script", "k"] ["script"] (defScope s_law) := ⟨rfl, rfl, rfl, by decide +kernel, rfl, by decide +kernel, by decide +kernel⟩

structure Txt (K : PySem.W.Frag) (mg : Str → Option Value) : Prop where
  f_is_count_to : At K mg "is_count_to" s_is_count_to
  f_cell_is_right : At K mg "cell_is_right" s_cell_is_right
  f_are_rising : At K mg "are_rising" s_are_rising
  f_some_cells : At K mg "some_cells" s_some_cells
  f_pinch_of : At K mg "pinch_of" s_pinch_of
  f_flaw_of : At K mg "flaw_of" s_flaw_of
  f_floor_is_right : At K mg "floor_is_right" s_floor_is_right
  f_lot_is_right : At K mg "lot_is_right" s_lot_is_right
  f_check_floor : At K mg "check_floor" s_check_floor
  f_is_dark : At K mg "is_dark" s_is_dark
  f_beside : At K mg "beside" s_beside
  f_near_in : At K mg "near_in" s_near_in
  f_way_from : At K mg "way_from" s_way_from
  f_laid_along : At K mg "laid_along" s_laid_along
  f_most_pairs : At K mg "most_pairs" s_most_pairs
  f_is_laid : At K mg "is_laid" s_is_laid
  f_come_to : At K mg "come_to" s_come_to
  f_check_lot : At K mg "check_lot" s_check_lot
  f_can_lay : At K mg "can_lay" s_can_lay
  f_neighbours_in : At K mg "neighbours_in" s_neighbours_in
  f_size_in : At K mg "size_in" s_size_in
  f_lot_of_lot : At K mg "lot_of_lot" s_lot_of_lot
  f_has_one_colour : At K mg "has_one_colour" s_has_one_colour
  f_lack_by : At K mg "lack_by" s_lack_by
  f_check_cells : At K mg "check_cells" s_check_cells
  f_neighbours : At K mg "neighbours" s_neighbours
  f_is_lack : At K mg "is_lack" s_is_lack
  f_lack : At K mg "lack" s_lack
  f_lack_size : At K mg "lack_size" s_lack_size
  f__law_pot : At K mg "_law_pot" s__law_pot
  f__law_draw : At K mg "_law_draw" s__law_draw
  f__law_pick : At K mg "_law_pick" s__law_pick
  f__law_same : At K mg "_law_same" s__law_same
  f__law_dark : At K mg "_law_dark" s__law_dark
  f__law_pinch : At K mg "_law_pinch" s__law_pinch
  f__law_floor : At K mg "_law_floor" s__law_floor
  f__law_beside : At K mg "_law_beside" s__law_beside
  f__law_layings : At K mg "_law_layings" s__law_layings
  f__law_lot : At K mg "_law_lot" s__law_lot
  f__law_near : At K mg "_law_near" s__law_near
  f__law_lots : At K mg "_law_lots" s__law_lots
  f__law_greatest : At K mg "_law_greatest" s__law_greatest
  f__law_is_lack : At K mg "_law_is_lack" s__law_is_lack
  f__law_one_right : At K mg "_law_one_right" s__law_one_right
  f__law_right : At K mg "_law_right" s__law_right
  f_law : At K mg "law" s_law
  c_MOST_CELLS : ∃ t, mg "MOST_CELLS" = some (.int 40 t)
  c_LAST : ∃ t, mg "LAST" = some (.int 7 t)
  b_isinstance : mg "isinstance" = none
  b_list : mg "list" = none
  b_tuple : mg "tuple" = none
  b_int : mg "int" = none
  b_bool : mg "bool" = none
  b_str : mg "str" = none
  b_len : mg "len" = none
  b_all : mg "all" = none
  b_any : mg "any" = none
  b_zip : mg "zip" = none
  b_set : mg "set" = none
  b_sorted : mg "sorted" = none
  b_abs : mg "abs" = none
  b_max : mg "max" = none
  b_min : mg "min" = none
  b_range : mg "range" = none
  b_repr : mg "repr" = none
  b_dict : mg "dict" = none
  b_divmod : mg "divmod" = none

end K25


/-! How many cells a grown and filled floor may have. -/
namespace K25
abbrev Cell := Int × Int
def wt (a b c d : Bool) : Int := if (!(a || b || c || d)) = true then 0 else if ((a && d && !b && !c) || (b && c && !a && !d)) = true then 2 else 1
/-- what a grid point counts, but for its upper left cell -/
def uw (a b c d : Bool) : Int := wt a b c d - (if a = true then 1 else 0)
def uAt (S : Cell → Bool) (p : Cell) : Int := uw (S (p.1 - 1, p.2 - 1)) (S (p.1 - 1, p.2)) (S (p.1, p.2 - 1)) (S (p.1, p.2))
def grid : List Cell := (List.range 9).flatMap fun x => (List.range 9).map fun y => (((x : Nat) : Int), ((y : Nat) : Int))
def sumL (l : List Cell) (f : Cell → Int) : Int := (l.map f).sum
def U (S : Cell → Bool) : Int := sumL grid (uAt S)
theorem uw_nonneg : ∀ a b c d : Bool, 0 ≤ uw a b c d := by decide
theorem grid_nodup : grid.Nodup := by decide +kernel
theorem grid_mem {x y : Int} (hx : 0 ≤ x ∧ x ≤ 8) (hy : 0 ≤ y ∧ y ≤ 8) : (x, y) ∈ grid := by
  unfold grid
  rw [List.mem_flatMap]
  refine ⟨x.toNat, List.mem_range.mpr (by omega), List.mem_map.mpr ⟨y.toNat, List.mem_range.mpr (by omega), ?_⟩⟩
  refine Prod.ext ?_ ?_
  · show ((x.toNat : Nat) : Int) = x
    omega
  · show ((y.toNat : Nat) : Int) = y
    omega
theorem sumL_perm {l l' : List Cell} (h : l.Perm l') (f : Cell → Int) : sumL l f = sumL l' f := by
  unfold sumL
  induction h with
  | nil => rfl
  | cons x _ ih => simp only [List.map_cons, List.sum_cons, ih]
  | swap x y l => simp only [List.map_cons, List.sum_cons]; omega
  | trans _ _ ih1 ih2 => exact ih1.trans ih2
theorem sumL_zero : ∀ {l : List Cell} {f : Cell → Int}, (∀ p ∈ l, f p = 0) → sumL l f = 0
  | [], _, _ => rfl
  | p :: l, f, h => by
    have := sumL_zero (l := l) (f := f) fun q hq => h q (List.mem_cons_of_mem _ hq)
    unfold sumL at this ⊢
    simp only [List.map_cons, List.sum_cons, h p (List.mem_cons_self ..), this]
    rfl
theorem sumL_nonneg : ∀ {l : List Cell} {f : Cell → Int}, (∀ p ∈ l, 0 ≤ f p) → 0 ≤ sumL l f
  | [], _, _ => Int.le_refl _
  | p :: l, f, h => by
    have h1 := sumL_nonneg (l := l) (f := f) fun q hq => h q (List.mem_cons_of_mem _ hq)
    have h2 := h p (List.mem_cons_self ..)
    unfold sumL at h1 ⊢
    simp only [List.map_cons, List.sum_cons]
    omega
theorem sumL_add (l : List Cell) (f g : Cell → Int) : sumL l (fun p => f p - g p) = sumL l f - sumL l g := by
  unfold sumL
  induction l with
  | nil => rfl
  | cons p l ih => simp only [List.map_cons, List.sum_cons, ih]; omega
/-- a sum over what is not nought -/
theorem sumL_on (f : Cell → Int) : ∀ (pts l : List Cell), l.Nodup → pts.Nodup → (∀ p ∈ pts, p ∈ l) → (∀ p ∈ l, p ∉ pts → f p = 0) → sumL l f = sumL pts f
  | [], l, _, _, _, h => (sumL_zero fun p hp => h p hp (by simp)).trans rfl
  | q :: pts, l, nl, np, hs, h => by
    have hq := hs q (List.mem_cons_self ..)
    have pm := List.perm_cons_erase hq
    rw [sumL_perm pm]
    rw [List.nodup_cons] at np
    have ih := sumL_on f pts (l.erase q) (nl.erase q) np.2 (fun p hp => (List.mem_erase_of_ne (fun e => np.1 (by rw [← e]; exact hp))).mpr (hs p (List.mem_cons_of_mem _ hp))) (fun p hp hn => by
      have pl : p ∈ l := List.mem_of_mem_erase hp
      have pq : p ≠ q := fun e => by
        rw [e] at hp
        exact (List.Nodup.not_mem_erase nl) hp
      exact h p pl (by simp [pq, hn]))
    unfold sumL at ih ⊢
    simp only [List.map_cons, List.sum_cons, ih]
theorem sumL_ge (f : Cell → Int) (f0 : ∀ p, 0 ≤ f p) : ∀ (pts l : List Cell), pts.Nodup → (∀ p ∈ pts, p ∈ l) → sumL pts f ≤ sumL l f
  | [], l, _, _ => sumL_nonneg fun p _ => f0 p
  | q :: pts, l, np, hs => by
    have hq := hs q (List.mem_cons_self ..)
    rw [sumL_perm (List.perm_cons_erase hq)]
    rw [List.nodup_cons] at np
    have ih := sumL_ge f f0 pts (l.erase q) np.2 fun p hp => (List.mem_erase_of_ne (fun e => np.1 (by rw [← e]; exact hp))).mpr (hs p (List.mem_cons_of_mem _ hp))
    unfold sumL at ih ⊢
    simp only [List.map_cons, List.sum_cons]
    omega
/-- what one more cell changes: by its eight neighbours -/
def dU (nw n ne w e sw s se : Bool) : Int :=
  (uw nw n w true - uw nw n w false) + (uw n ne true e - uw n ne false e) + (uw w true sw s - uw w false sw s) + (uw true e s se - uw false e s se)
theorem dU_alone : ∀ nw n ne w e sw s se : Bool, dU nw n ne w e sw s se ≤ 3 := by decide
theorem dU_grow : ∀ nw n ne w e sw s se : Bool, (n || w || e || s) = true → dU nw n ne w e sw s se ≤ 1 := by decide
theorem dU_left : ∀ nw n ne w sw : Bool, dU nw n ne w true sw true false ≤ -1 := by decide
theorem dU_right : ∀ nw n ne e se : Bool, dU nw n ne true e false true se ≤ -1 := by decide
theorem U_add (S S' : Cell → Bool) (z : Cell) (hz : (0 ≤ z.1 ∧ z.1 ≤ 7) ∧ 0 ≤ z.2 ∧ z.2 ≤ 7) (new : S z = false) (now : S' z = true) (same : ∀ q, q ≠ z → S' q = S q) :
    U S' = U S + dU (S (z.1 - 1, z.2 - 1)) (S (z.1 - 1, z.2)) (S (z.1 - 1, z.2 + 1)) (S (z.1, z.2 - 1)) (S (z.1, z.2 + 1)) (S (z.1 + 1, z.2 - 1)) (S (z.1 + 1, z.2)) (S (z.1 + 1, z.2 + 1)) := by
  obtain ⟨r, c⟩ := z
  simp only at hz ⊢
  have df := sumL_add grid (uAt S') (uAt S)
  have ne : ∀ (a b : Int), (a ≠ r ∨ b ≠ c) → S' (a, b) = S (a, b) := fun a b h => same _ fun e => by
    injection e with e1 e2
    rcases h with h | h
    · exact h e1
    · exact h e2
  have on := sumL_on (fun p => uAt S' p - uAt S p) [(r, c), (r, c + 1), (r + 1, c), (r + 1, c + 1)] grid grid_nodup (by
      simp <;> omega)
    (fun p hp => by
      simp only [List.mem_cons, List.not_mem_nil, or_false] at hp
      rcases hp with rfl | rfl | rfl | rfl <;> exact grid_mem (by omega) (by omega))
    (fun p _ hp => by
      obtain ⟨x, y⟩ := p
      simp only [List.mem_cons, List.not_mem_nil, or_false, not_or, Prod.mk.injEq, not_and] at hp
      obtain ⟨h1, h2, h3, h4⟩ := hp
      have e1 : S' (x - 1, y - 1) = S (x - 1, y - 1) := ne _ _ (by
        rcases Classical.em (x - 1 = r) with e | e
        · exact .inr fun f => h4 (by omega) (by omega)
        · exact .inl e)
      have e2 : S' (x - 1, y) = S (x - 1, y) := ne _ _ (by
        rcases Classical.em (x - 1 = r) with e | e
        · exact .inr fun f => h3 (by omega) (by omega)
        · exact .inl e)
      have e3 : S' (x, y - 1) = S (x, y - 1) := ne _ _ (by
        rcases Classical.em (x = r) with e | e
        · exact .inr fun f => h2 (by omega) (by omega)
        · exact .inl e)
      have e4 : S' (x, y) = S (x, y) := ne _ _ (by
        rcases Classical.em (x = r) with e | e
        · exact .inr fun f => h1 (by omega) (by omega)
        · exact .inl e)
      simp only [uAt, e1, e2, e3, e4]
      omega)
  rw [on] at df
  have a1 : r + 1 - 1 = r := by omega
  have a2 : c + 1 - 1 = c := by omega
  have v : sumL [(r, c), (r, c + 1), (r + 1, c), (r + 1, c + 1)] (fun p => uAt S' p - uAt S p) = dU (S (r - 1, c - 1)) (S (r - 1, c)) (S (r - 1, c + 1)) (S (r, c - 1)) (S (r, c + 1)) (S (r + 1, c - 1)) (S (r + 1, c)) (S (r + 1, c + 1)) := by
    simp only [sumL, List.map_cons, List.map_nil, List.sum_cons, List.sum_nil, uAt, a1, a2, new, now, dU]
    rw [ne (r - 1) (c - 1) (.inl (by omega)), ne (r - 1) c (.inl (by omega)), ne r (c - 1) (.inr (by omega)), ne (r - 1) (c + 1) (.inl (by omega)), ne r (c + 1) (.inr (by omega)),
      ne (r + 1) (c - 1) (.inl (by omega)), ne (r + 1) c (.inl (by omega)), ne (r + 1) (c + 1) (.inl (by omega))]
    omega
  unfold U
  omega
/-- a floor that has a cell counts three at least -/
theorem U_three (S : Cell → Bool) (z : Cell) (hz : (0 ≤ z.1 ∧ z.1 ≤ 7) ∧ 0 ≤ z.2 ∧ z.2 ≤ 7) (yes : S z = true) (up : ∀ c, S (z.1 - 1, c) = false) (left : S (z.1, z.2 - 1) = false) : 3 ≤ U S := by
  obtain ⟨r, c⟩ := z
  simp only at hz up left
  have ge := sumL_ge (uAt S) (fun p => uw_nonneg _ _ _ _) [(r, c), (r, c + 1), (r + 1, c)] grid (by
      simp <;> omega)
    (fun p hp => by
      simp only [List.mem_cons, List.not_mem_nil, or_false] at hp
      rcases hp with rfl | rfl | rfl <;> exact grid_mem (by omega) (by omega))
  have a1 : r + 1 - 1 = r := by omega
  have a2 : c + 1 - 1 = c := by omega
  have one : ∀ b c : Bool, 1 ≤ uw false b c true := by decide
  have two : ∀ b d : Bool, 1 ≤ uw false b true d := by decide
  have three : ∀ c d : Bool, 1 ≤ uw false true c d := by decide
  simp only [sumL, List.map_cons, List.map_nil, List.sum_cons, List.sum_nil, uAt, a1, a2, up, left, yes] at ge
  have g1 := one false false
  have g2 := two false (S (r, c + 1))
  have g3 := three (S (r + 1, c - 1)) (S (r + 1, c))
  unfold U
  have e : sumL grid (uAt S) = (List.map (uAt S) grid).sum := rfl
  rw [e]
  omega
/-! ### lists of cells -/
def memB (zs : List Cell) : Cell → Bool := fun q => decide (q ∈ zs)
/-- m: how many cells it grew to -/
structure Grown (wide : Int) (m : Nat) (zs : List Cell) : Prop where
  nd : zs.Nodup
  bd : ∀ z ∈ zs, (0 ≤ z.1 ∧ z.1 < wide) ∧ 0 ≤ z.2 ∧ z.2 < wide
  ne : zs ≠ []
  u : U (memB zs) + zs.length ≤ 2 * m + 2
theorem U_nil : U (memB []) = 0 := by decide +kernel
theorem memB_add (zs : List Cell) (z : Cell) (h : z ∉ zs) : (memB zs z = false ∧ memB (zs ++ [z]) z = true) ∧ ∀ q, q ≠ z → memB (zs ++ [z]) q = memB zs q := by
  refine ⟨⟨by simp [memB, h], by simp [memB]⟩, fun q hq => by simp [memB, hq]⟩
theorem U_app {zs : List Cell} {z : Cell} (hz : (0 ≤ z.1 ∧ z.1 ≤ 7) ∧ 0 ≤ z.2 ∧ z.2 ≤ 7) (h : z ∉ zs) :
    U (memB (zs ++ [z])) = U (memB zs) + dU (memB zs (z.1 - 1, z.2 - 1)) (memB zs (z.1 - 1, z.2)) (memB zs (z.1 - 1, z.2 + 1)) (memB zs (z.1, z.2 - 1)) (memB zs (z.1, z.2 + 1)) (memB zs (z.1 + 1, z.2 - 1)) (memB zs (z.1 + 1, z.2)) (memB zs (z.1 + 1, z.2 + 1)) := by
  obtain ⟨⟨h1, h2⟩, h3⟩ := memB_add zs z h
  exact U_add _ _ z hz h1 h2 h3
theorem nodup_app {zs : List Cell} {z : Cell} (nd : zs.Nodup) (h : z ∉ zs) : (zs ++ [z]).Nodup := by
  rw [List.nodup_append]
  exact ⟨nd, by simp, fun a ha b hb e => h (by simp at hb; rw [← hb, ← e]; exact ha)⟩
theorem grown_one {wide : Int} {z : Cell} (w8 : wide ≤ 8) (hz : (0 ≤ z.1 ∧ z.1 < wide) ∧ 0 ≤ z.2 ∧ z.2 < wide) : Grown wide 1 [z] := by
  refine ⟨by simp, fun y hy => by simp at hy; subst hy; exact hz, by simp, ?_⟩
  have e := U_app (zs := []) (z := z) ⟨⟨hz.1.1, by omega⟩, hz.2.1, by omega⟩ (by simp)
  rw [U_nil] at e
  have b := dU_alone (memB [] (z.1 - 1, z.2 - 1)) (memB [] (z.1 - 1, z.2)) (memB [] (z.1 - 1, z.2 + 1)) (memB [] (z.1, z.2 - 1)) (memB [] (z.1, z.2 + 1)) (memB [] (z.1 + 1, z.2 - 1)) (memB [] (z.1 + 1, z.2)) (memB [] (z.1 + 1, z.2 + 1))
  simp only [List.nil_append] at e
  rw [e]
  simp only [List.length_singleton]
  omega
/-- one more beside one that is there -/
theorem Grown.more {wide : Int} {m : Nat} {zs : List Cell} {z : Cell} (g : Grown wide m zs) (w8 : wide ≤ 8) (hz : (0 ≤ z.1 ∧ z.1 < wide) ∧ 0 ≤ z.2 ∧ z.2 < wide) (new : z ∉ zs)
    (by_ : (z.1 - 1, z.2) ∈ zs ∨ (z.1, z.2 - 1) ∈ zs ∨ (z.1, z.2 + 1) ∈ zs ∨ (z.1 + 1, z.2) ∈ zs) : Grown wide (m + 1) (zs ++ [z]) := by
  refine ⟨nodup_app g.nd new, fun y hy => ?_, by simp, ?_⟩
  · rcases List.mem_append.mp hy with h | h
    · exact g.bd y h
    · rw [List.mem_singleton.mp h]; exact hz
  · have e := U_app (zs := zs) (z := z) ⟨⟨hz.1.1, by omega⟩, hz.2.1, by omega⟩ new
    have b := dU_grow (memB zs (z.1 - 1, z.2 - 1)) (memB zs (z.1 - 1, z.2)) (memB zs (z.1 - 1, z.2 + 1)) (memB zs (z.1, z.2 - 1)) (memB zs (z.1, z.2 + 1)) (memB zs (z.1 + 1, z.2 - 1)) (memB zs (z.1 + 1, z.2)) (memB zs (z.1 + 1, z.2 + 1)) (by
      rcases by_ with h | h | h | h <;> simp [memB, h])
    have u := g.u
    rw [e, List.length_append, List.length_singleton]
    omega
/-- a pinch is filled -/
theorem Grown.fill {wide : Int} {m : Nat} {zs : List Cell} {z : Cell} (g : Grown wide m zs) (w8 : wide ≤ 8) (s : Int) (hs : s = 1 ∨ s = -1) (h1 : z ∈ zs) (h2 : (z.1 + 1, z.2 + s) ∈ zs) (h3 : (z.1, z.2 + s) ∉ zs) (h4 : (z.1 + 1, z.2) ∉ zs) : Grown wide m (zs ++ [(z.1, z.2 + s)]) := by
  have b1 := g.bd z h1
  have b2 := g.bd _ h2
  simp only at b2
  have hz : (0 ≤ z.1 ∧ z.1 < wide) ∧ 0 ≤ z.2 + s ∧ z.2 + s < wide := ⟨b1.1, b2.2⟩
  refine ⟨nodup_app g.nd h3, fun y hy => ?_, by simp, ?_⟩
  · rcases List.mem_append.mp hy with h | h
    · exact g.bd y h
    · rw [List.mem_singleton.mp h]; exact hz
  · have e := U_app (zs := zs) (z := (z.1, z.2 + s)) ⟨⟨hz.1.1, by simp only; omega⟩, hz.2.1, by simp only; omega⟩ h3
    simp only at e
    have u := g.u
    have t1 : memB zs (z.1, z.2) = true := by simp [memB]; exact h1
    have t2 : memB zs (z.1 + 1, z.2 + s) = true := by simp [memB]; exact h2
    have t4 : memB zs (z.1 + 1, z.2) = false := by simp [memB]; exact h4
    rw [e, List.length_append, List.length_singleton]
    rcases hs with rfl | rfl
    · have a : z.2 + 1 - 1 = z.2 := by omega
      rw [a, t1, t2, t4]
      have b := dU_right (memB zs (z.1 - 1, z.2)) (memB zs (z.1 - 1, z.2 + 1)) (memB zs (z.1 - 1, z.2 + 1 + 1)) (memB zs (z.1, z.2 + 1 + 1)) (memB zs (z.1 + 1, z.2 + 1 + 1))
      omega
    · have a : z.2 + -1 + 1 = z.2 := by omega
      rw [a, t1, t2, t4]
      have b := dU_left (memB zs (z.1 - 1, z.2 + -1 - 1)) (memB zs (z.1 - 1, z.2 + -1)) (memB zs (z.1 - 1, z.2)) (memB zs (z.1, z.2 + -1 - 1)) (memB zs (z.1 + 1, z.2 + -1 - 1))
      omega
theorem least : ∀ (zs : List Cell), zs ≠ [] → ∃ z ∈ zs, ∀ y ∈ zs, z.1 < y.1 ∨ (z.1 = y.1 ∧ z.2 ≤ y.2)
  | [], h => absurd rfl h
  | [z], _ => ⟨z, by simp, fun y hy => by simp at hy; subst hy; exact .inr ⟨rfl, Int.le_refl _⟩⟩
  | z :: w :: r, _ => by
    obtain ⟨v, hv, hl⟩ := least (w :: r) (by simp)
    by_cases c : z.1 < v.1 ∨ (z.1 = v.1 ∧ z.2 ≤ v.2)
    · refine ⟨z, by simp, fun y hy => ?_⟩
      rcases List.mem_cons.mp hy with rfl | hy
      · exact .inr ⟨rfl, Int.le_refl _⟩
      · have := hl y hy
        omega
    · refine ⟨v, List.mem_cons_of_mem _ hv, fun y hy => ?_⟩
      rcases List.mem_cons.mp hy with rfl | hy
      · omega
      · exact hl y hy
theorem Grown.few {wide : Int} {m : Nat} {zs : List Cell} (g : Grown wide m zs) (w8 : wide ≤ 8) : zs.length + 1 ≤ 2 * m := by
  obtain ⟨z, hz, hl⟩ := least zs g.ne
  have b := g.bd z hz
  have t := U_three (memB zs) z ⟨⟨b.1.1, by omega⟩, b.2.1, by omega⟩ (by simp [memB]; exact hz) (fun c => by
      simp only [memB, decide_eq_false_iff_not]
      intro h
      have := hl _ h
      simp only at this
      omega) (by
      simp only [memB, decide_eq_false_iff_not]
      intro h
      have := hl _ h
      simp only at this
      omega)
  have u := g.u
  omega
end K25



namespace K25
open PySem PySem.Spec PyProof.Rows L2 DL
local macro_rules | `(tactic| walk_at "dl") => `(tactic| simp only [dSeq, dRet, dRetO, dRetN, dIsi, dName, dAndV, dOrV, dNotV, dAnd, dOr, dNot, dTr, dIf, dIfS, dNext, dNever, dBreak, dCont, dExpr, dSet, dOwn, dAsg, gSet, gTupD, gsCons, gsNil, dCall, dCallK, dACons, dANil, dAPot, dOp, dCB, dCons, dNil, dTup, dLst, dChain, gLen, gIx, gAbs, gInt, gTwo, gTuple, gList, dSl, gSl, dPart, dNoPart, dNeg, dRevT, startD, argSl, List.map_cons, List.map_nil, List.cons_append, List.nil_append, List.append_nil, List.getElem?_cons_zero, List.getElem?_cons_succ, List.set_cons_zero, List.set_cons_succ, List.length_cons, List.length_nil, List.replicate_succ, List.replicate_zero, dK, gCmpI, gLt, gI, gAdd, gMul, gEq, gIs, gIn, Res.data, oData, oLst, oLc, oList, oListRg, iSeq, iRg1, iRg2, iZip_, iEnumD, wipeD, dYes, dPotIx, dPotSet, dPeek, cPeek, dFor, dDat, dFreeze, dInSet, dSetSet, dSortSet, Nat.reduceAdd, Nat.zero_add, Nat.reduceLeDiff, true_and, and_true, Bool.false_eq_true, if_true, if_false])
section
variable {P : Program} {w : World} {K : PySem.W.Frag} {mg : Str → Option Value} {base : Heap}
def df1 (f : PyData → PyData) : DF := fun as Q => match as with | [.d a] => Q (.dat (f a)) | _ => False
theorem df1_len {f : PyData → PyData} : ∀ as Q, df1 f as Q → as.length = 1 := by
  intro as Q h
  unfold df1 at h
  split at h
  · rfl
  · exact h.elim
def isIntTo (v : PyData) (m : Int) : Bool := match v with | .int i => decide (0 ≤ i) && decide (i ≤ m) | _ => false
def dfCount : DF := fun as Q => match as with | [.d v, .d (.int m)] => Q (.dat (.bool (isIntTo v m))) | _ => False
theorem dfCount_len : ∀ as Q, dfCount as Q → as.length = 2 := by
  intro as Q h
  unfold dfCount at h
  split at h
  · rfl
  · exact h.elim
theorem G_is_count_to (T : Txt K mg) : Good P w K mg base "is_count_to" s_is_count_to 1 ["value", "most"] dfCount := by
  refine good_mk (N := ["value", "most"]) T.f_is_count_to sc_is_count_to (fun _ _ _ _ _ _ us hl => match us, hl with | [_, _], _ => rfl) dfCount_len (fun f cdv A outer s H E hr =>
    (dss_one (ds_ret (de_and (de_isi kit_int T.b_isinstance T.b_int (de_name 0)) (de_and (de_not (de_isi kit_bool T.b_isinstance T.b_bool (de_name 0))) (de_one (de_chain (od_le) (od_le) de_int (de_name 0) (de_name 1)))))))) ?_
  intro as Q h
  unfold dfCount at h
  split at h
  · rename_i v m
    cases v <;> first
      | exact h
      | (rename_i i
         walk_at "dl"
         simp only [DL.isInt, DL.isBool, Bool.not_false]
         by_cases z : 0 ≤ i
         · simp only [decide_eq_true z]
           simpa [isIntTo, z] using h
         · simp only [decide_eq_false z]
           simpa [isIntTo, z] using h)
  · exact h.elim
def cellOk (v : PyData) : Bool := match v with | .tuple [a, b] => isIntTo a 7 && isIntTo b 7 | _ => false
theorem G_cell_is_right (T : Txt K mg) : Good P w K mg base "cell_is_right" s_cell_is_right 2 ["value"] (df1 fun v => .bool (cellOk v)) := by
  have G_is_count_to := G_is_count_to (P := P) (w := w) (base := base) T
  refine good_mk (N := ["value", "one"]) T.f_cell_is_right sc_cell_is_right (fun _ _ _ _ _ _ us hl => match us, hl with | [_], _ => rfl) df1_len (fun f cdv A outer s H E hr =>
    (dss_one (ds_ret (de_and (de_isi kit_tuple T.b_isinstance T.b_tuple (de_name 0)) (de_and (de_cmp (od_eq hr.u) (de_callB (cd_len) T.b_len (dl_cons (de_name 0) dl_nil)) de_int (nomark _)) (de_one (de_callB (cd_all rfl) T.b_all (dl_cons (DO.de (do_lc (own := [("one", 1)]) rfl sc_cell_is_right.nd (di_seq (de_name 0)) (blkOk_by (own := [("one", 1)]) (by rfl)) (fun _ _ _ _ _ => (dg_name 1 sc_cell_is_right.nd)) (fun _ _ _ _ _ => dts_nil) (fun _ _ _ _ _ => (de_callG G_is_count_to (hr.mono (by decide)) (da_cons (de_name 1) (da_cons (de_gI T.c_LAST) da_nil)))) (by decide))) dl_nil)))))))) ?_
  intro as Q h
  unfold df1 at h
  split at h
  · rename_i v
    cases v with
    | tuple ds =>
      walk_at "dl"
      simp only [isTup, okD_int, Bool.and_self, eqv_int, true_and]
      by_cases z : ((ds.length : Nat) : Int) = 2
      · simp only [z, decide_true, if_neg (by decide : ¬ (false = true))]
        refine lcD_map (fun d => .bool (isIntTo d 7)) ds [] (fun d _ Q hq => ?_) (by simp; omega) ?_
        · walk_at "dl"
          exact hq
        · refine gAll_map _ _ _ ?_
          match ds, z, h with
          | [a, b], _, h => simpa [cellOk] using h
      · simp only [z, decide_false, if_neg (by decide : ¬ (false = true))]
        match ds, z, h with
        | [], _, h => exact h
        | [_], _, h => exact h
        | [a, b], z, _ => exact absurd rfl z
        | _ :: _ :: _ :: _, _, h => exact h
    | _ => exact h
  · exact h.elim
def ltB (z w : Int × Int) : Bool := decide (z.1 < w.1 ∨ (z.1 = w.1 ∧ z.2 < w.2))
def rising : List (Int × Int) → Bool
  | z :: w :: r => ltB z w && rising (w :: r)
  | _ => true
/-- from a tuple of cells -/
def dfCells (C : List (Int × Int) → Prop) (f : List (Int × Int) → PyData) : DF := fun as Q => ∃ zs : List (Int × Int), as = [.d (.tuple (zs.map cellD))] ∧ C zs ∧ Q (.dat (f zs))
theorem dfCells_len {C : List (Int × Int) → Prop} {f : List (Int × Int) → PyData} : ∀ as Q, dfCells C f as Q → as.length = 1 := by
  rintro as Q ⟨zs, rfl, _⟩
  rfl
theorem ints2 (z : Int × Int) : intsOf [.int z.1, .int z.2] = some [z.1, z.2] := rfl
theorem lex2 (z w : Int × Int) : HT.lexLt [z.1, z.2] [w.1, w.2] = ltB z w := by
  unfold ltB
  by_cases e : z.1 = w.1
  · by_cases f : z.2 = w.2
    · simp [HT.lexLt, e, f]
    · simp [HT.lexLt, e, f]
  · simp [HT.lexLt, e]
theorem rising_zip : ∀ zs : List (Int × Int), ((zs.zip (zs.drop 1)).all fun q => ltB q.1 q.2) = rising zs
  | [] => rfl
  | [_] => rfl
  | z :: w :: r => by
    have h := rising_zip (w :: r)
    simp only [List.drop_succ_cons, List.drop_zero] at h ⊢
    rw [List.zip_cons_cons, List.all_cons, h]
    rfl
theorem zip_cells : ∀ (zs ws : List (Int × Int)), prD2 (zs.map cellD) (ws.map cellD) = (zs.zip ws).map fun q => .tuple [cellD q.1, cellD q.2]
  | [], _ => by simp [prD2]
  | _ :: _, [] => by simp [prD2]
  | z :: zs, w :: ws => by
    have h := zip_cells zs ws
    unfold prD2 at h ⊢
    simp only [List.map_cons, List.zip_cons_cons]
    rw [h]
theorem cut1 (ds : List PyData) : DL.cutD ds (some 1) none = ds.drop 1 := by
  unfold DL.cutD
  have e : HT.sIx ds.length ds.length none = ds.length := rfl
  have e2 : HT.sIx ds.length 0 (some 1) = min 1 ds.length := rfl
  rw [e, e2]
  cases ds with
  | nil => rfl
  | cons d ds =>
    have : min 1 (d :: ds).length = 1 := by simp
    rw [this]
    simp
theorem lcD_pairs {i j : Nat} {te : DT} {ρ : Rho} {Q : List PyData → Prop} (f : (Int × Int) × (Int × Int) → PyData) (nij : i ≠ j) : ∀ (qs : List ((Int × Int) × (Int × Int))) (acc : List PyData),
    (∀ q ∈ qs, ∀ Q : PyData → Prop, Q (f q) → te ((ρ.set i (.dat (cellD q.1))).set j (.dat (cellD q.2))) Q) → acc.length + qs.length ≤ 16777216 → Q (acc ++ qs.map f) →
    lcD (gTupD (gsCons (gSet i) (gsCons (gSet j) gsNil)) 2) dYes te ρ (qs.map fun q => .tuple [cellD q.1, cellD q.2]) acc Q
  | [], acc, _, _, h => by simpa [lcD] using h
  | q :: qs, acc, ht, hl, h => by
    simp only [List.map_cons, lcD, gTupD, gsCons, gsNil, gSet, dYes, List.length_cons, List.length_nil, true_and]
    refine ht q (List.mem_cons_self ..) _ ⟨by simp at hl; omega, ?_⟩
    refine lcD_pairs f nij qs _ (fun e he => ht e (List.mem_cons_of_mem _ he)) (by simp at hl ⊢; omega) ?_
    simpa using h
theorem G_are_rising (T : Txt K mg) : Good P w K mg base "are_rising" s_are_rising 1 ["value"] (dfCells (fun zs => zs.length ≤ 1000) fun zs => .bool (rising zs)) := by
  refine good_mk (N := ["value", "one", "other"]) T.f_are_rising sc_are_rising (fun _ _ _ _ _ _ us hl => match us, hl with | [_], _ => rfl) dfCells_len (fun f cdv A outer s H E hr =>
    (dss_one (ds_ret (de_callB (cd_all rfl) T.b_all (dl_cons (DO.de (do_lc (own := [("one", 1), ("other", 2)]) rfl sc_are_rising.nd (di_zip T.b_zip (dl_cons (de_name 0) (dl_cons (de_slice (de_name 0) (do_some de_int) do_none) dl_nil))) (blkOk_by (own := [("one", 1), ("other", 2)]) (by rfl)) (fun _ _ _ _ _ => (dg_tup (n := 2) rfl (dgs_cons (dg_name 1 sc_are_rising.nd) (dgs_cons (dg_name 2 sc_are_rising.nd) dgs_nil)))) (fun _ _ _ _ _ => dts_nil) (fun _ _ _ _ _ => (de_cmp (od_lt hr.u0) (de_name 1) (de_name 2) (nomark _))) (by decide))) dl_nil))))) ?_
  rintro as Q ⟨zs, rfl, hl, h⟩
  walk_at "dl"
  rw [cut1, ← List.map_drop]
  rw [zip_cells]
  refine lcD_pairs (fun q => .bool (ltB q.1 q.2)) (by decide) _ [] (fun q _ Q hq => ?_) (by simp; omega) ?_
  · walk_at "dl"
    refine ⟨_, _, ints2 q.1, ints2 q.2, ?_⟩
    rw [lex2]
    exact hq
  · refine gAll_map _ _ _ ?_
    rw [rising_zip]
    exact h
def someCells (v : PyData) : Bool := match v with | .tuple ds => decide (1 ≤ ds.length) && decide (ds.length ≤ 40) && ds.all cellOk | _ => false
theorem G_some_cells (T : Txt K mg) : Good P w K mg base "some_cells" s_some_cells 3 ["value"] (df1 fun v => .bool (someCells v)) := by
  have G_cell_is_right := G_cell_is_right (P := P) (w := w) (base := base) T
  refine good_mk (N := ["value", "one"]) T.f_some_cells sc_some_cells (fun _ _ _ _ _ _ us hl => match us, hl with | [_], _ => rfl) df1_len (fun f cdv A outer s H E hr =>
    (dss_one (ds_ret (de_and (de_isi kit_tuple T.b_isinstance T.b_tuple (de_name 0)) (de_and (de_chain (od_le) (od_le) de_int (de_callB (cd_len) T.b_len (dl_cons (de_name 0) dl_nil)) (de_gI T.c_MOST_CELLS)) (de_one (de_callB (cd_all rfl) T.b_all (dl_cons (DO.de (do_lc (own := [("one", 1)]) rfl sc_some_cells.nd (di_seq (de_name 0)) (blkOk_by (own := [("one", 1)]) (by rfl)) (fun _ _ _ _ _ => (dg_name 1 sc_some_cells.nd)) (fun _ _ _ _ _ => dts_nil) (fun _ _ _ _ _ => (de_callG G_cell_is_right (hr.mono (by decide)) (da_cons (de_name 1) da_nil))) (by decide))) dl_nil)))))))) ?_
  intro as Q h
  unfold df1 at h
  split at h
  · rename_i v
    cases v with
    | tuple ds =>
      walk_at "dl"
      simp only [isTup]
      simp only [someCells] at h
      by_cases z : 1 ≤ ds.length
      · have z' : (1 : Int) ≤ (ds.length : Nat) := by omega
        simp only [z', decide_true]
        by_cases y : ds.length ≤ 40
        · have y' : ((ds.length : Nat) : Int) ≤ 40 := by omega
          simp only [y', decide_true]
          refine lcD_map (fun d => .bool (cellOk d)) ds [] (fun d _ Q hq => ?_) (by simp; omega) ?_
          · walk_at "dl"
            exact hq
          · refine gAll_map _ _ _ ?_
            simpa [z, y] using h
        · have y' : ¬ ((ds.length : Nat) : Int) ≤ 40 := by omega
          simp only [y', decide_false]
          simpa [y] using h
      · have z' : ¬ (1 : Int) ≤ (ds.length : Nat) := by omega
        simp only [z', decide_false]
        simpa [z] using h
    | _ => exact h
  · exact h.elim
theorem cells_of : ∀ {ds : List PyData}, ds.all cellOk = true → ∃ zs : List (Int × Int), ds = zs.map cellD ∧ ∀ z ∈ zs, (0 ≤ z.1 ∧ z.1 ≤ 7) ∧ 0 ≤ z.2 ∧ z.2 ≤ 7
  | [], _ => ⟨[], rfl, fun z hz => nomatch hz⟩
  | d :: ds, h => by
    rw [List.all_cons, Bool.and_eq_true] at h
    obtain ⟨zs, e, hz⟩ := cells_of h.2
    have : ∃ z : Int × Int, d = cellD z ∧ (0 ≤ z.1 ∧ z.1 ≤ 7) ∧ 0 ≤ z.2 ∧ z.2 ≤ 7 := by
      have h1 := h.1
      unfold cellOk at h1
      split at h1
      · rename_i a b
        rw [Bool.and_eq_true] at h1
        cases a with
        | int i =>
          cases b with
          | int j =>
            simp [isIntTo] at h1
            exact ⟨(i, j), rfl, h1⟩
          | _ => simp [isIntTo] at h1
        | _ => simp [isIntTo] at h1
      · cases h1
    obtain ⟨z, ez, hz'⟩ := this
    refine ⟨z :: zs, by rw [ez, e]; rfl, fun y hy => ?_⟩
    rcases List.mem_cons.mp hy with rfl | hy
    · exact hz'
    · exact hz y hy
theorem some_of {v : PyData} (h : someCells v = true) : ∃ zs : List (Int × Int), v = .tuple (zs.map cellD) ∧ (1 ≤ zs.length ∧ zs.length ≤ 40) ∧ ∀ z ∈ zs, (0 ≤ z.1 ∧ z.1 ≤ 7) ∧ 0 ≤ z.2 ∧ z.2 ≤ 7 := by
  unfold someCells at h
  split at h
  · simp only [Bool.and_eq_true, decide_eq_true_eq] at h
    obtain ⟨zs, e, hz⟩ := cells_of h.2
    subst e
    exact ⟨zs, rfl, by simpa using h.1, hz⟩
  · cases h
end
end K25



namespace K25
open PySem PySem.Spec PyProof.Rows L2 DL
local macro_rules | `(tactic| walk_at "dl") => `(tactic| simp only [dSeq, dRet, dRetO, dRetN, dIsi, dName, dAndV, dOrV, dNotV, dAnd, dOr, dNot, dTr, dIf, dIfS, dNext, dNever, dBreak, dCont, dExpr, dSet, dOwn, dAsg, gSet, gTupD, gsCons, gsNil, dCall, dCallK, dACons, dANil, dAPot, dOp, dCB, dCons, dNil, dTup, dLst, dChain, gLen, gIx, gAbs, gInt, gTwo, gTuple, gList, dSl, gSl, dPart, dNoPart, dNeg, dRevT, startD, argSl, List.map_cons, List.map_nil, List.cons_append, List.nil_append, List.append_nil, List.getElem?_cons_zero, List.getElem?_cons_succ, List.set_cons_zero, List.set_cons_succ, List.length_cons, List.length_nil, List.replicate_succ, List.replicate_zero, dK, gCmpI, gLt, gI, gAdd, gMul, gEq, gIs, gIn, Res.data, oData, oLst, oLc, oList, oListRg, iSeq, iRg1, iRg2, iZip_, iEnumD, wipeD, dYes, dPotIx, dPotSet, dPeek, cPeek, dFor, dDat, dFreeze, dInSet, dSetSet, dSortSet, Nat.reduceAdd, Nat.zero_add, Nat.reduceLeDiff, true_and, and_true, Bool.false_eq_true, if_true, if_false])
def pinchAt (S : Int × Int → Bool) (z : Int × Int) : Option ((Int × Int) × (Int × Int)) :=
  if (S (z.1 + 1, z.2 - 1) && !S (z.1, z.2 - 1) && !S (z.1 + 1, z.2)) = true then some (z, (z.1 + 1, z.2 - 1))
  else if (S (z.1 + 1, z.2 + 1) && !S (z.1, z.2 + 1) && !S (z.1 + 1, z.2)) = true then some (z, (z.1 + 1, z.2 + 1)) else none
def pinchOf (zs : List (Int × Int)) : Option ((Int × Int) × (Int × Int)) := zs.findSome? (pinchAt fun c => decide (c ∈ zs))
def pinchD : Option ((Int × Int) × (Int × Int)) → PyData
  | none => .none
  | some q => .tuple [cellD q.1, cellD q.2]
section
variable {P : Program} {w : World} {K : PySem.W.Frag} {mg : Str → Option Value} {base : Heap}
theorem cell_tup (a b : Int) : (.tuple [.int a, .int b] : PyData) = tupI [a, b] := rfl
/-- what the two turns of the inner loop make of a cell -/
theorem pinch_turn {c : DTT} {i : Nat} {D : DEnds} {ρ : Rho} {z : Int × Int} {S : Int × Int → Bool} {tup : DT}
    (hc : ∀ (b : Int) (Q : Bool → Prop), Q (S (z.1 + 1, b) && !S (z.1, b) && !S (z.1 + 1, z.2)) → c (ρ.set i (.dat (.int b))) Q)
    (ht : ∀ (b : Int) (Q : PyData → Prop), Q (.tuple [cellD z, cellD (z.1 + 1, b)]) → tup (ρ.set i (.dat (.int b))) Q)
    (hit : ∀ q, pinchAt S z = some q → D.rt (.dat (pinchD (some q)))) (miss : pinchAt S z = none → D.nx (ρ.set i (.dat (.int (z.2 + 1))))) (hi : i < ρ.length) :
    loopD (gSet i) (dIfS c (dRet tup) dNext) D [.int (z.2 - 1), .int (z.2 + 1)] ρ := by
  simp only [loopD, gSet, dIfS, dRet, dNext]
  unfold pinchAt at hit miss
  refine hc _ _ ?_
  cases e1 : (S (z.1 + 1, z.2 - 1) && !S (z.1, z.2 - 1) && !S (z.1 + 1, z.2)) with
  | true =>
    refine ht _ _ ?_
    exact hit (z, (z.1 + 1, z.2 - 1)) (by rw [if_pos e1])
  | false =>
    simp only [List.set_set]
    refine hc _ _ ?_
    cases e2 : (S (z.1 + 1, z.2 + 1) && !S (z.1, z.2 + 1) && !S (z.1 + 1, z.2)) with
    | true =>
      refine ht _ _ ?_
      exact hit (z, (z.1 + 1, z.2 + 1)) (by rw [if_neg (by rw [e1]; decide), if_pos e2])
    | false => exact miss (by rw [if_neg (by rw [e1]; decide), if_neg (by rw [e2]; decide)])
theorem findSome_at {α β : Type} {f : α → Option β} : ∀ {l : List α} {k : Nat} {a : α} {b : β}, l[k]? = some a → f a = some b → (∀ m a', m < k → l[m]? = some a' → f a' = none) → l.findSome? f = some b
  | [], _, _, _, h, _, _ => by simp at h
  | x :: l, 0, a, b, h, hb, _ => by
    simp at h
    subst h
    simp [List.findSome?_cons, hb]
  | x :: l, k + 1, a, b, h, hb, hn => by
    have h0 := hn 0 x (Nat.succ_pos _) (by simp)
    rw [List.findSome?_cons, h0]
    exact findSome_at (k := k) (by simpa using h) hb fun m a' hm ha => hn (m + 1) a' (by omega) (by simpa using ha)
theorem findSome_no {α β : Type} {f : α → Option β} : ∀ {l : List α}, (∀ (m : Nat) a', l[m]? = some a' → f a' = none) → l.findSome? f = none
  | [], _ => rfl
  | x :: l, hn => by
    rw [List.findSome?_cons, hn 0 x (by simp)]
    exact findSome_no fun m a' ha => hn (m + 1) a' (by simpa using ha)
/-- both loops over the cells -/
theorem pinch_loop {zs : List (Int × Int)} {S : Int × Int → Bool} {tb : DS} {i j : Nat} {D : DEnds} {ρ : Rho} (Sh : Rho → Prop) (hρ : Sh ρ)
    (turn : ∀ (z : Int × Int) (ρ : Rho) (D' : DEnds), z ∈ zs → Sh ρ → (∀ q, pinchAt S z = some q → D'.rt (.dat (pinchD (some q)))) → (pinchAt S z = none → ∀ ρ', Sh ρ' → D'.nx ρ') → tb D' ((ρ.set i (.dat (.int z.1))).set j (.dat (.int z.2))))
    (hit : ∀ q, zs.findSome? (pinchAt S) = some q → D.rt (.dat (pinchD (some q)))) (miss : zs.findSome? (pinchAt S) = none → ∀ ρ', Sh ρ' → D.nx ρ') :
    loopD (gTupD (gsCons (gSet i) (gsCons (gSet j) gsNil)) 2) tb D (zs.map cellD) ρ := by
  refine loopD_inv (fun n ρ => Sh ρ ∧ ∀ m z, m < n → zs[m]? = some z → pinchAt S z = none) _ 0 ρ ⟨hρ, fun m z hm => absurd hm (Nat.not_lt_zero _)⟩ (fun k d ρ N hk hI hN => ?_) (fun ρ h => ?_)
  · rw [List.getElem?_map, Option.map_eq_some_iff] at hk
    obtain ⟨z, hz, rfl⟩ := hk
    simp only [gTupD, gsCons, gsNil, gSet, List.length_cons, List.length_nil, true_and]
    obtain ⟨h1, h2⟩ := hI
    refine turn z ρ _ (List.mem_of_getElem? hz) h1 (fun q hq => hit q (findSome_at hz hq fun m a hm ha => h2 m a (by omega) ha)) (fun hq ρ' h' => hN ρ' ⟨h', fun m a hm ha => ?_⟩)
    rcases Nat.lt_or_ge m k with y | y
    · exact h2 m a (by omega) ha
    · have : m = k := by omega
      subst this
      rw [hz] at ha
      cases ha
      exact hq
  · refine miss (findSome_no fun m a ha => h.2 m a ?_ ha) ρ h.1
    have := (List.getElem?_eq_some_iff.mp ha).1
    simpa using this
theorem andB (a b c : Bool) (Q : Bool → Prop) (h : Q (a && !b && !c)) : (match a with | true => (match !b with | true => Q (!c) | false => Q false) | false => Q false) := by
  cases a <;> cases b <;> simpa using h
theorem G_pinch_of (T : Txt K mg) : Good P w K mg base "pinch_of" s_pinch_of 1 ["cells"] (dfCells (fun zs => zs.length < 64) fun zs => pinchD (pinchOf zs)) := by
  refine good_mk (N := ["cells", "known", "row", "column", "beside"]) T.f_pinch_of sc_pinch_of (fun _ _ _ _ _ _ us hl => match us, hl with | [_], _ => rfl) dfCells_len (fun f cdv A outer s H E hr =>
    (dss_cons (ds_setSet 1 rfl hr.u sc_pinch_of.nd T.b_set (de_name 0))
  (dss_cons (ds_for PassesOwn.never rfl (di_seq (de_name 0)) (dg_tup (n := 2) rfl (dgs_cons (dg_name 2 sc_pinch_of.nd) (dgs_cons (dg_name 3 sc_pinch_of.nd) dgs_nil)))
  (dss_one (ds_for PassesOwn.never rfl (di_seq (de_tup (dl_cons (de_op od_sub (de_name 3) de_int) (dl_cons (de_op od_add (de_name 3) de_int) dl_nil)))) (dg_name 4 sc_pinch_of.nd)
  (dss_one (ds_if (dc_bool (dw_and (dc_inSet 1 hr.u (de_tup (dl_cons (de_op od_add (de_name 2) de_int) (dl_cons (de_name 4) dl_nil)))) (dw_and (dc_ninSet 1 hr.u (de_tup (dl_cons (de_name 2) (dl_cons (de_name 4) dl_nil)))) (dw_and1 (dc_ninSet 1 hr.u (de_tup (dl_cons (de_op od_add (de_name 2) de_int) (dl_cons (de_name 3) dl_nil))))))))
  (dss_one (ds_ret (de_tup (dl_cons (de_tup (dl_cons (de_name 2) (dl_cons (de_name 3) dl_nil))) (dl_cons (de_tup (dl_cons (de_op od_add (de_name 2) de_int) (dl_cons (de_name 4) dl_nil))) dl_nil)))))
  dss_nil)))))
  (dss_one (ds_ret de_non))))) ?_
  rintro as Q ⟨zs, rfl, hl, h⟩
  simp only [dSeq, dSetSet]
  walk_at "dl"
  refine ⟨zs.map fun z => [z.1, z.2], .inr (by rw [cells_tups]), by simpa using hl, ?_⟩
  have mem : ∀ (a b : Int) (t : Bool), (t = true ↔ [a, b] ∈ zs.map fun z => [z.1, z.2]) → t = decide ((a, b) ∈ zs) := fun a b t ht => by
    have : [a, b] ∈ (zs.map fun z => [z.1, z.2]) ↔ (a, b) ∈ zs := by
      constructor
      · intro m
        obtain ⟨z, hz, e⟩ := List.mem_map.mp m
        injection e with e1 e2
        injection e2 with e2 _
        have : z = (a, b) := Prod.ext e1 e2
        exact this ▸ hz
      · intro m; exact List.mem_map.mpr ⟨_, m, rfl⟩
    rw [this] at ht
    cases t
    · exact (decide_eq_false (fun z => by simpa using ht.mpr z)).symm
    · exact (decide_eq_true (ht.mp rfl)).symm
  refine pinch_loop (S := fun c => decide (c ∈ zs)) (fun ρ => ∃ a b c, ρ = [Sl.dat (PyData.tuple (List.map cellD zs)), Sl.sett fun x => x ∈ List.map (fun z => [z.fst, z.snd]) zs, a, b, c]) ⟨_, _, _, rfl⟩ (fun z ρ D' _ ⟨a, b, c, e⟩ h1 h2 => ?_) (fun q hq => ?_) (fun hq ρ' _ => ?_)
  · subst e
    walk_at "dl"
    refine pinch_turn (z := z) (S := fun c => decide (c ∈ zs)) ?_ ?_ h1 ?_ ?_
    · intro b Q hq
      walk_at "dl"
      refine ⟨[z.1 + 1, b], rfl, fun t ht => ?_⟩
      have e1 := mem _ _ _ ht
      subst e1
      cases ea : decide ((z.1 + 1, b) ∈ zs) with
      | false => simpa [ea] using hq
      | true =>
        simp only
        refine ⟨[z.1, b], rfl, fun t ht => ?_⟩
        have e1 := mem _ _ _ ht
        subst e1
        cases eb : decide ((z.1, b) ∈ zs) with
        | true => simpa [ea, eb] using hq
        | false =>
          simp only [if_true, Bool.not_false]
          refine ⟨[z.1 + 1, z.2], rfl, fun t ht => ?_⟩
          have e1 := mem _ _ _ ht
          subst e1
          simpa [ea, eb] using hq
    · intro b Q hq
      walk_at "dl"
      exact hq
    · exact fun hn => h2 hn _ ⟨_, _, _, rfl⟩
    · simp
  · walk_at "dl"
    have e : pinchOf zs = some q := hq
    simp only [e] at h
    exact h
  · walk_at "dl"
    have e : pinchOf zs = none := hq
    simp only [e] at h
    exact h
/-- the flaw of a value -/
def flawD (v : PyData) : PyData := match v with
  | .tuple [.str x, c] => if (x == ("floor" : Str)) = true then (if someCells c = true then (match c with | .tuple ds => (match cellsOf ds with | zs => if rising zs = true then (match pinchOf zs with | some _ => .str "pinch" | none => .none) else .str "order") | _ => .none) else .str "cells") else .str "form"
  | _ => .str "form"
where
  cellsOf (ds : List PyData) : List (Int × Int) := ds.filterMap fun d => match d with | .tuple [.int a, .int b] => some (a, b) | _ => none
theorem cellsOf_map : ∀ zs : List (Int × Int), flawD.cellsOf (zs.map cellD) = zs
  | [] => rfl
  | z :: zs => by
    have h := cellsOf_map zs
    unfold flawD.cellsOf at h ⊢
    simp only [List.map_cons, List.filterMap_cons]
    rw [h]
def dfOk (f : PyData → PyData) : DF := fun as Q => match as with | [.d a] => okD a = true ∧ Q (.dat (f a)) | _ => False
theorem dfOk_len {f : PyData → PyData} : ∀ as Q, dfOk f as Q → as.length = 1 := by
  intro as Q h
  unfold dfOk at h
  split at h
  · rfl
  · exact h.elim
theorem strOk_of {x : Str} {c : PyData} (h : okD (.tuple [.str x, c]) = true) : PyData.strOk x = true := by
  simp [okD, SeqAt.shaped, PyData.canLay0, PyData.canLayAll0] at h
  exact h.2.1.1
theorem flaw_form {x : Str} {c : PyData} (h : ¬ (x == ("floor" : Str)) = true) : flawD (.tuple [.str x, c]) = .str "form" := by
  unfold flawD
  simp only [if_neg h]
theorem flaw_cells {x : Str} {c : PyData} (h : (x == ("floor" : Str)) = true) (h2 : someCells c = false) : flawD (.tuple [.str x, c]) = .str "cells" := by
  unfold flawD
  simp [h, h2]
theorem flaw_zs {x : Str} {zs : List (Int × Int)} (h : (x == ("floor" : Str)) = true) (h2 : someCells (.tuple (zs.map cellD)) = true) : flawD (.tuple [.str x, .tuple (zs.map cellD)]) = if rising zs = true then (match pinchOf zs with | some _ => .str "pinch" | none => .none) else .str "order" := by
  unfold flawD
  simp [h, h2, cellsOf_map]
theorem at0 (a c : PyData) : atI [a, c] 0 = some a := rfl
theorem at1 (a c : PyData) : atI [a, c] 1 = some c := rfl
local macro_rules | `(tactic| walk_at "dv") => `(tactic| simp [isTup, isStr, DL.isInt, DL.isBool, isList, okD_int, okD_bool, okD_none, eqv_int, at0, at1, isNone])
theorem G_flaw_of (T : Txt K mg) : Good P w K mg base "flaw_of" s_flaw_of 4 ["value"] (dfOk flawD) := by
  have G_some_cells := G_some_cells (P := P) (w := w) (base := base) T
  have G_are_rising := G_are_rising (P := P) (w := w) (base := base) T
  have G_pinch_of := G_pinch_of (P := P) (w := w) (base := base) T
  refine good_mk (N := ["value"]) T.f_flaw_of sc_flaw_of (fun _ _ _ _ _ _ us hl => match us, hl with | [_], _ => rfl) dfOk_len (fun f cdv A outer s H E hr =>
    (dss_cons (ds_if (dc_bool (dw_or (dc_not (dc_val (de_isi kit_tuple T.b_isinstance T.b_tuple (de_name 0)))) (dw_or (dc_cmp (od_ne hr.u) (de_callB (cd_len) T.b_len (dl_cons (de_name 0) dl_nil)) de_int (nomark _)) (dw_or (dc_not (dc_val (de_isi kit_str T.b_isinstance T.b_str (de_ix (de_name 0) de_int)))) (dw_or1 (dc_cmp (od_ne hr.u) (de_ix (de_name 0) de_int) de_str (nomark _)))))))
  (dss_one (ds_ret de_str))
  dss_nil)
  (dss_cons (ds_if (dc_not (dc_val (de_callG G_some_cells (hr.mono (by decide)) (da_cons (de_ix (de_name 0) de_int) da_nil))))
  (dss_one (ds_ret de_str))
  dss_nil)
  (dss_cons (ds_if (dc_not (dc_val (de_callG G_are_rising (hr.mono (by decide)) (da_cons (de_ix (de_name 0) de_int) da_nil))))
  (dss_one (ds_ret de_str))
  dss_nil)
  (dss_one (ds_ret (de_if (dc_cmp (od_isNot) (de_callG G_pinch_of (hr.mono (by decide)) (da_cons (de_ix (de_name 0) de_int) da_nil)) de_non (nomark _)) de_str de_non))))))) ?_
  intro as Q h
  unfold dfOk at h
  split at h
  · rename_i v
    obtain ⟨ok, h⟩ := h
    have form : flawD v = .str "form" → Q (.dat (.str "form")) := fun e => e ▸ h
    cases v with
    | tuple ds =>
      match ds, ok, h, form with
      | [a, c], ok, h, form =>
        cases a with
        | str x =>
          have so := okD_str (strOk_of ok)
          have sf : okD (.str "floor") = true := by decide +kernel
          walk_at "dl"
          simp only [at0, at1, okD_int, eqv_int, so, sf, isStr, eqv_str]
          by_cases e : (x == ("floor" : Str)) = true
          · walk_at "dv"
            simp only [e]
            unfold df1
            simp only
            cases e2 : someCells c with
            | false =>
              rw [flaw_cells e e2] at h
              exact h
            | true =>
              obtain ⟨zs, rfl, hl, _⟩ := some_of e2
              rw [flaw_zs e e2] at h
              simp only [Bool.not_true]
              refine ⟨zs, rfl, by omega, ?_⟩
              simp only
              cases e3 : rising zs with
              | false => simpa [e3] using h
              | true =>
                simp only [Bool.not_true]
                refine ⟨zs, rfl, by omega, ?_⟩
                simp only [e3, if_true] at h
                simp only
                cases e4 : pinchOf zs with
                | none => simpa [e4, pinchD, isNone] using h
                | some q => simpa [e4, pinchD, isNone] using h
          · rw [flaw_form e] at h
            walk_at "dv"
            simp only [e]
            exact h
        | _ =>
          walk_at "dl"
          have z := form rfl
          walk_at "dv"
          exact z
      | [], _, h, form =>
        walk_at "dl"
        have z := form rfl
        walk_at "dv"
        exact z
      | [a], _, h, form =>
        walk_at "dl"
        have z := form (by cases a <;> rfl)
        walk_at "dv"
        exact z
      | a :: b :: c :: r, _, h, form =>
        have z := form (by cases a <;> rfl)
        walk_at "dl"
        have ne : ¬ (((r.length + 1 + 1 + 1 : Nat) : Int) = 2) := by omega
        simp only [isTup, Bool.not_true, okD_int, eqv_int, decide_eq_false ne]
        exact ⟨rfl, z⟩
    | _ =>
      walk_at "dl"
      exact form rfl
  · exact h.elim
end
end K25



namespace K25
open PySem PySem.Spec PyProof.Rows L2 DL
local macro_rules | `(tactic| walk_at "dl") => `(tactic| simp only [dSeq, dRet, dRetO, dRetN, dIsi, dName, dAndV, dOrV, dNotV, dAnd, dOr, dNot, dTr, dIf, dIfS, dNext, dNever, dBreak, dCont, dExpr, dSet, dOwn, dAsg, gSet, gTupD, gsCons, gsNil, dCall, dCallK, dACons, dANil, dAPot, dOp, dCB, dCons, dNil, dTup, dLst, dChain, gLen, gIx, gAbs, gInt, gTwo, gTuple, gList, dSl, gSl, dPart, dNoPart, dNeg, dRevT, startD, argSl, List.map_cons, List.map_nil, List.cons_append, List.nil_append, List.append_nil, List.getElem?_cons_zero, List.getElem?_cons_succ, List.set_cons_zero, List.set_cons_succ, List.length_cons, List.length_nil, List.replicate_succ, List.replicate_zero, dK, gCmpI, gLt, gI, gAdd, gMul, gEq, gIs, gIn, Res.data, oData, oLst, oLc, oList, oListRg, iSeq, iRg1, iRg2, iZip_, iEnumD, wipeD, dYes, dPotIx, dPotSet, dPeek, cPeek, dFor, dDat, dFreeze, dInSet, dSetSet, dSortSet, Nat.reduceAdd, Nat.zero_add, Nat.reduceLeDiff, true_and, and_true, Bool.false_eq_true, if_true, if_false])
section
variable {P : Program} {w : World} {K : PySem.W.Frag} {mg : Str → Option Value} {base : Heap}
theorem G_floor_is_right (T : Txt K mg) : Good P w K mg base "floor_is_right" s_floor_is_right 5 ["value"] (dfOk fun v => .bool (isNone (flawD v))) := by
  have G_flaw_of := G_flaw_of (P := P) (w := w) (base := base) T
  refine good_mk (N := ["value"]) T.f_floor_is_right sc_floor_is_right (fun _ _ _ _ _ _ us hl => match us, hl with | [_], _ => rfl) dfOk_len (fun f cdv A outer s H E hr =>
    (dss_one (ds_ret (de_cmp (od_is) (de_callG G_flaw_of (hr.mono (by decide)) (da_cons (de_name 0) da_nil)) de_non (nomark _))))) ?_
  intro as Q h
  unfold dfOk at h
  split at h
  · walk_at "dl"
    exact h
  · exact h.elim
/-! ### cells as data -/
theorem eqv_cell (z y : Int × Int) : PyData.eqv (cellD z) (cellD y) = decide (z = y) := by
  have e : PyData.eqv (cellD z) (cellD y) = ((z.1 == y.1) && ((z.2 == y.2) && true)) := by simp only [cellD, PyData.eqv, PyData.eqvAll]
  rw [e]
  by_cases h : z = y
  · subst h; simp
  · rw [decide_eq_false h]
    by_cases h1 : z.1 = y.1
    · have : ¬ z.2 = y.2 := fun h2 => h (Prod.ext h1 h2)
      simp [h1, this]
    · simp [h1]
theorem any_cells (zs : List (Int × Int)) (y : Int × Int) : ((zs.map cellD).any fun d => PyData.eqv d (cellD y)) = decide (y ∈ zs) := by
  induction zs with
  | nil => simp
  | cons z zs ih =>
    rw [List.map_cons, List.any_cons, ih, eqv_cell]
    by_cases h : z = y
    · subst h; simp
    · have h' : ¬ y = z := fun q => h q.symm
      simp [h, h']
theorem cells_lay : ∀ zs : List (Int × Int), PyData.canLayAll0 (zs.map cellD) = true ∧ PyData.depthAll (zs.map cellD) ≤ 1 ∧ PyData.hasDictAll (zs.map cellD) = false
  | [] => by simp [PyData.canLayAll0, PyData.depthAll, PyData.hasDictAll]
  | z :: zs => by
    obtain ⟨h1, h2, h3⟩ := cells_lay zs
    refine ⟨?_, ?_, ?_⟩
    · simp [PyData.canLayAll0, PyData.canLay0, h1]
    · simp only [List.map_cons, PyData.depthAll, PyData.depth]
      omega
    · simp [PyData.hasDictAll, PyData.hasDict, h3]
theorem okD_cell (z : Int × Int) : okD (cellD z) = true := by
  simp [okD, PyData.hasDict, PyData.hasDictAll, SeqAt.shaped, PyData.canLay0, PyData.canLayAll0, PyData.depth, PyData.depthAll]
theorem okD_cells (zs : List (Int × Int)) : okD (.list (zs.map cellD)) = true ∧ okD (.tuple (zs.map cellD)) = true := by
  obtain ⟨h1, h2, h3⟩ := cells_lay zs
  constructor
  · simp [okD, SeqAt.shaped, PyData.hasDict, PyData.canLay0, PyData.depth, h1, h3]
    omega
  · simp [okD, SeqAt.shaped, PyData.hasDict, PyData.canLay0, PyData.depth, h1, h3]
    omega
/-- cells as a list or a tuple -/
def AsCells (d : PyData) (zs : List (Int × Int)) : Prop := d = .list (zs.map cellD) ∨ d = .tuple (zs.map cellD)
def dfAny (f : List (Int × Int) → PyData) : DF := fun as Q => ∃ d zs, as = [.d d] ∧ AsCells d zs ∧ Q (.dat (f zs))
theorem dfAny_len {f : List (Int × Int) → PyData} : ∀ as Q, dfAny f as Q → as.length = 1 := by
  rintro as Q ⟨d, zs, rfl, _⟩
  rfl
theorem in_cells {d : PyData} {zs : List (Int × Int)} (h : AsCells d zs) (a b : Int) (neg : Bool) (Q : PyData → Prop) (q : Q (.bool (if neg then !decide ((a, b) ∈ zs) else decide ((a, b) ∈ zs)))) : gIn neg (.tuple [.int a, .int b]) d Q := by
  have e := any_cells zs (a, b)
  rcases h with rfl | rfl
  · unfold gIn
    simp only
    refine ⟨by rw [(okD_cells zs).1, Bool.and_true]; exact okD_cell (a, b), ?_⟩
    rw [show (.tuple [.int a, .int b] : PyData) = cellD (a, b) from rfl, e]
    exact q
  · unfold gIn
    simp only
    refine ⟨by rw [(okD_cells zs).2, Bool.and_true]; exact okD_cell (a, b), ?_⟩
    rw [show (.tuple [.int a, .int b] : PyData) = cellD (a, b) from rfl, e]
    exact q
end
end K25



namespace K25
open PySem PySem.Spec PyProof.Rows L2 DL
local macro_rules | `(tactic| walk_at "dl") => `(tactic| simp only [dSeq, dRet, dRetO, dRetN, dIsi, dName, dAndV, dOrV, dNotV, dAnd, dOr, dNot, dTr, dIf, dIfS, dNext, dNever, dBreak, dCont, dExpr, dSet, dOwn, dAsg, gSet, gTupD, gsCons, gsNil, dCall, dCallK, dACons, dANil, dAPot, dOp, dCB, dCons, dNil, dTup, dLst, dChain, gLen, gIx, gAbs, gInt, gTwo, gTuple, gList, dSl, gSl, dPart, dNoPart, dNeg, dRevT, startD, argSl, List.map_cons, List.map_nil, List.cons_append, List.nil_append, List.append_nil, List.getElem?_cons_zero, List.getElem?_cons_succ, List.set_cons_zero, List.set_cons_succ, List.length_cons, List.length_nil, List.replicate_succ, List.replicate_zero, dK, gCmpI, gLt, gI, gAdd, gMul, gEq, gIs, gIn, Res.data, oData, oLst, oLc, oList, oListRg, iSeq, iRg1, iRg2, iZip_, iEnumD, wipeD, dYes, dPotIx, dPotSet, dPeek, cPeek, dFor, dDat, dFreeze, dInSet, dSetSet, dSortSet, Nat.reduceAdd, Nat.zero_add, Nat.reduceLeDiff, true_and, and_true, Bool.false_eq_true, if_true, if_false])
section
variable {P : Program} {w : World} {K : PySem.W.Frag} {mg : Str → Option Value} {base : Heap}
/-- a draw below m -/
def dfDraw : DF := fun as Q => match as with | [.p, .d (.int m)] => (0 < m ∧ m < 1073741824) ∧ ∀ n : Int, 0 ≤ n → n < m → Q (.dat (.int n)) | _ => False
theorem dfDraw_len : ∀ as Q, dfDraw as Q → as.length = 2 := by
  intro as Q h
  unfold dfDraw at h
  split at h
  · rfl
  · exact h.elim
theorem fmod_in {i m : Int} (h : 0 < m) : 0 ≤ i.fmod m ∧ i.fmod m < m := by
  rw [Int.fmod_eq_emod_of_nonneg i (by omega)]
  exact ⟨Int.emod_nonneg _ (by omega), Int.emod_lt_of_pos _ h⟩
def dfPick : DF := fun as Q => match as with
  | [.p, .d (.list ds)] => (0 < ds.length ∧ ds.length < 1000) ∧ ∀ d ∈ ds, Q (.dat d)
  | [.p, .d (.tuple ds)] => (0 < ds.length ∧ ds.length < 1000) ∧ ∀ d ∈ ds, Q (.dat d)
  | _ => False
theorem dfPick_len : ∀ as Q, dfPick as Q → as.length = 2 := by
  intro as Q h
  unfold dfPick at h
  split at h
  · rfl
  · rfl
  · exact h.elim
theorem atI_mem {ds : List PyData} {n : Int} (h0 : 0 ≤ n) (h : n < ds.length) : ∃ d, atI ds n = some d ∧ d ∈ ds := by
  obtain ⟨k, rfl⟩ := Int.eq_ofNat_of_zero_le h0
  have hk : k < ds.length := by omega
  exact ⟨ds[k], atI_nat (List.getElem?_eq_getElem hk), List.getElem_mem hk⟩
def dfBeside : DF := fun as Q => ∃ z : Int × Int, as = [.d (cellD z)] ∧ Q (.own ([(z.1 - 1, z.2), (z.1, z.2 - 1), (z.1, z.2 + 1), (z.1 + 1, z.2)].map cellD))
theorem dfBeside_len : ∀ as Q, dfBeside as Q → as.length = 1 := by
  rintro as Q ⟨z, rfl, _⟩
  rfl
def dfPot : DF := fun as Q => ∃ ns : List Int, as = [.d (.list (ns.map .int))] ∧ ∀ a b : Int, 0 ≤ a → 0 ≤ b → b < 4294967296 → Q (.own [.int a, .int b])
theorem dfPot_len : ∀ as Q, dfPot as Q → as.length = 1 := by
  rintro as Q ⟨ns, rfl, _⟩
  rfl
end
end K25



namespace K25
open PySem PySem.Spec PyProof.Rows L2 DL
open PySem.W (AllAlike Sortable dataLe)
local macro_rules | `(tactic| walk_at "dl") => `(tactic| simp only [dSeq, dRet, dRetO, dRetN, dIsi, dName, dAndV, dOrV, dNotV, dAnd, dOr, dNot, dTr, dIf, dIfS, dNext, dNever, dBreak, dCont, dExpr, dSet, dOwn, dAsg, gSet, gTupD, gsCons, gsNil, dCall, dCallK, dACons, dANil, dAPot, dOp, dCB, dCons, dNil, dTup, dLst, dChain, gLen, gIx, gAbs, gInt, gTwo, gTuple, gList, dSl, gSl, dPart, dNoPart, dNeg, dRevT, startD, argSl, List.map_cons, List.map_nil, List.cons_append, List.nil_append, List.append_nil, List.getElem?_cons_zero, List.getElem?_cons_succ, List.set_cons_zero, List.set_cons_succ, List.length_cons, List.length_nil, List.replicate_succ, List.replicate_zero, dK, gCmpI, gLt, gI, gAdd, gMul, gEq, gIs, gIn, Res.data, oData, oLst, oLc, oList, oListRg, iSeq, iRg1, iRg2, iZip_, iEnumD, wipeD, dYes, dPotIx, dPotSet, dPeek, cPeek, dFor, dDat, dFreeze, dInSet, dSetSet, dSortSet, Nat.reduceAdd, Nat.zero_add, Nat.reduceLeDiff, true_and, and_true, Bool.false_eq_true, if_true, if_false])
/-! ### sorted cells -/
def leC (a b : Int × Int) : Bool := !ltB b a
theorem leC_trans (a b c : Int × Int) (h1 : leC a b = true) (h2 : leC b c = true) : leC a c = true := by
  simp only [leC, ltB, Bool.not_eq_true', decide_eq_false_iff_not] at h1 h2 ⊢
  omega
theorem leC_total (a b : Int × Int) : (leC a b || leC b a) = true := by
  simp only [leC, ltB, Bool.or_eq_true, Bool.not_eq_true', decide_eq_false_iff_not]
  omega
theorem data_le (a b : Int × Int) : dataLe false id (cellD a) (cellD b) = leC a b := by
  show (!PyProof.Rows.lexLt PyProof.Rows.itemOrd (PySem.W.keyToks (cellD b)) (PySem.W.keyToks (cellD a))) = leC a b
  simp only [cellD, PySem.W.keyToks, PySem.W.keyToksAll, List.cons_append, List.nil_append, PyProof.Rows.lexLt, PyProof.Rows.itemLt, leC, ltB]
  by_cases e : b.1 = a.1
  · by_cases f : b.2 = a.2
    · simp [e, f]
    · first
        | (simp [e, f]; done)
        | (simp [e, f]; omega)
  · first
      | (simp [e]; done)
      | (simp [e]; omega)
theorem sort_ok (zs : List (Int × Int)) (hl : zs.length ≤ 1000) : SortOk (zs.map cellD) := by
  refine ⟨(cells_lay zs).2.2, fun d hd e he => ?_, .inl fun d hd => ?_, by simp; omega, fun d hd => ?_⟩
  · obtain ⟨a, _, rfl⟩ := List.mem_map.mp hd
    obtain ⟨b, _, rfl⟩ := List.mem_map.mp he
    simp [PySem.W.alike, PySem.W.alikeAll]
  · obtain ⟨a, _, rfl⟩ := List.mem_map.mp hd
    exact ⟨_, _, rfl⟩
  · obtain ⟨a, _, rfl⟩ := List.mem_map.mp hd
    simp [PyData.depth, PyData.depthAll]
theorem sort_cells (zs : List (Int × Int)) : sortD (zs.map cellD) = (zs.mergeSort leC).map cellD := by
  unfold sortD
  rw [List.map_mergeSort (r := leC) (s := dataLe false id) (f := cellD) (fun a _ b _ => (data_le a b).symm)]
theorem rising_of : ∀ {ws : List (Int × Int)}, ws.Pairwise (fun a b => leC a b = true) → ws.Nodup → rising ws = true
  | [], _, _ => rfl
  | [_], _, _ => rfl
  | a :: b :: r, h, nd => by
    rw [List.pairwise_cons] at h
    rw [List.nodup_cons] at nd
    have hb := h.1 b (by simp)
    have ne : a ≠ b := fun e => nd.1 (by simp [e])
    have lt : ltB a b = true := by
      simp only [leC, ltB, Bool.not_eq_true', decide_eq_false_iff_not, decide_eq_true_eq] at hb ⊢
      rcases Classical.em (a.1 = b.1) with e | e
      · have : a.2 ≠ b.2 := fun f => ne (Prod.ext e f)
        omega
      · omega
    show (ltB a b && rising (b :: r)) = true
    rw [lt, rising_of h.2 nd.2]
    rfl
theorem sorted_rising {zs : List (Int × Int)} (nd : zs.Nodup) : rising (zs.mergeSort leC) = true :=
  rising_of (List.pairwise_mergeSort leC_trans leC_total zs) ((List.mergeSort_perm zs leC).nodup_iff.mpr nd)
theorem sorted_mem {zs : List (Int × Int)} {z : Int × Int} : z ∈ zs.mergeSort leC ↔ z ∈ zs := (List.mergeSort_perm zs leC).mem_iff
/-- a found pinch -/
theorem pinch_found {zs : List (Int × Int)} {q : (Int × Int) × (Int × Int)} (h : pinchOf zs = some q) : ∃ (z : Int × Int) (s : Int), (s = 1 ∨ s = -1) ∧ q = (z, (z.1 + 1, z.2 + s)) ∧ z ∈ zs ∧ (z.1 + 1, z.2 + s) ∈ zs ∧ (z.1, z.2 + s) ∉ zs ∧ (z.1 + 1, z.2) ∉ zs := by
  unfold pinchOf at h
  obtain ⟨z, hz, hq⟩ := List.exists_of_findSome?_eq_some h
  unfold pinchAt at hq
  split at hq
  · rename_i c
    simp only [Bool.and_eq_true, Bool.not_eq_true', decide_eq_true_eq, decide_eq_false_iff_not] at c
    cases hq
    exact ⟨z, -1, .inr rfl, rfl, hz, c.1.1, c.1.2, c.2⟩
  · split at hq
    · rename_i c
      simp only [Bool.and_eq_true, Bool.not_eq_true', decide_eq_true_eq, decide_eq_false_iff_not] at c
      cases hq
      exact ⟨z, 1, .inl rfl, rfl, hz, c.1.1, c.1.2, c.2⟩
    · cases hq
section
variable {P : Program} {w : World} {K : PySem.W.Frag} {mg : Str → Option Value} {base : Heap}
def dfLC : DF := fun as Q => ∃ (m : Nat) (wide : Int), as = [.p, .d (.int m), .d (.int wide)] ∧ (1 ≤ m ∧ m ≤ 20) ∧ (3 ≤ wide ∧ wide ≤ 8) ∧
  ∀ zs : List (Int × Int), rising zs = true → zs.Nodup → (∀ z ∈ zs, (0 ≤ z.1 ∧ z.1 < wide) ∧ 0 ≤ z.2 ∧ z.2 < wide) → zs ≠ [] → zs.length + 1 ≤ 2 * m → pinchOf zs = none → Q (.dat (.tuple (zs.map cellD)))
theorem dfLC_len : ∀ as Q, dfLC as Q → as.length = 3 := by
  rintro as Q ⟨m, wide, rfl, _⟩
  rfl
def growB : DS := (dIfS (dTr (dOp gLt (dCB gLen (dCons (dName 3) dNil)) (dName 1))) (dSeq (dSet 7 (dCall dfPick (dAPot 0 (dACons (dCall dfBeside (dACons (dCall dfPick (dAPot 0 (dACons (dName 3) dANil))) dANil)) dANil))))
  (dIfS (dAnd (dTr (dChain (gCmpI fun i j => decide (i ≤ j)) gLt (dK (PyData.int 0)) (dOp gIx (dName 7) (dK (PyData.int 0))) (dName 2)))
      (dAnd (dTr (dChain (gCmpI fun i j => decide (i ≤ j)) gLt (dK (PyData.int 0)) (dOp gIx (dName 7) (dK (PyData.int 1))) (dName 2))) (dTr (dOp (gIn true) (dName 7) (dName 3)))))
    (dSet 3 (dOp gAdd (dName 3) (dLst (dCons (dName 7) dNil)))) dNext)) dNext)
def fillB : DS := dSeq (dSet 8 (dCall (dfAny fun zs => pinchD (pinchOf zs)) (dACons (dCB gSort (dCons (dName 3) dNil)) dANil)))
  (dIfS (dTr (dOp (gIs true) (dName 8) (dK PyData.none)))
    (dSet 3 (dOp gAdd (dName 3) (dLst (dCons (dTup (dCons (dOp gIx (dOp gIx (dName 8) (dK (PyData.int 0))) (dK (PyData.int 0))) (dCons (dOp gIx (dOp gIx (dName 8) (dK (PyData.int 1))) (dK (PyData.int 1))) dNil))) dNil)))) dNext)
def tailS : DS := dSeq (dFor (iRg1 (dCons (dK (PyData.int 30)) dNil)) (gSet 6) fillB) (dRet (dCB gTuple (dCons (dCB gSort (dCons (dName 3) dNil)) dNil)))
abbrev rho (m : Nat) (wide : Int) (zs : List (Int × Int)) (a b c d e f g : Sl) : Rho := [Sl.pot, Sl.dat (PyData.int m), Sl.dat (PyData.int wide), Sl.dat (.list (zs.map cellD)), a, b, c, d, e, f, g]
theorem fill_turn {m : Nat} {wide : Int} {k : Nat} {zs : List (Int × Int)} {R : Res → Prop} {B N : Rho → Prop} (g : Grown wide k zs) (w8 : wide ≤ 8) (k20 : k ≤ 20) (x4 x5 x6 x7 x8 x9 x10 : Sl) {n : Nat} (st : pinchOf (zs.mergeSort leC) = none ∨ n + k ≤ zs.length)
    (hN : ∀ zs', Grown wide k zs' → (pinchOf (zs'.mergeSort leC) = none ∨ n + 1 + k ≤ zs'.length) → ∀ y8, N (rho m wide zs' x4 x5 x6 x7 y8 x9 x10)) : fillB { nx := N, rt := R, bk := B, ct := N } (rho m wide zs x4 x5 x6 x7 x8 x9 x10) := by
  have few := g.few w8
  unfold fillB
  walk_at "dl"
  simp only [gSort]
  refine ⟨sort_ok zs (by omega), _, _, rfl, .inl (by rw [sort_cells]), ?_⟩
  simp only
  cases e : pinchOf (zs.mergeSort leC) with
  | none =>
    simp only [pinchD, isNone, Bool.not_true]
    exact hN zs g (.inl e) _
  | some q =>
    obtain ⟨z, s, hs, rfl, h1, h2, h3, h4⟩ := pinch_found e
    rw [sorted_mem] at h1 h2 h3 h4
    simp only [pinchD, isNone, Bool.not_false, at0, at1]
    refine ⟨by simp; omega, ?_⟩
    have gg := g.fill w8 s hs h1 h2 h3 h4
    have z' := hN _ gg (.inr (by rw [List.length_append, List.length_singleton]; have := st.resolve_left (fun z => by rw [z] at e; cases e); omega)) (Sl.dat (.tuple [cellD z, cellD (z.1 + 1, z.2 + s)]))
    rw [show rho m wide (zs ++ [(z.1, z.2 + s)]) x4 x5 x6 x7 (Sl.dat (.tuple [cellD z, cellD (z.1 + 1, z.2 + s)])) x9 x10 = [Sl.pot, Sl.dat (PyData.int m), Sl.dat (PyData.int wide), Sl.dat (.list (zs.map cellD ++ [cellD (z.1, z.2 + s)])), x4, x5, x6, x7, (Sl.dat (.tuple [cellD z, cellD (z.1 + 1, z.2 + s)])), x9, x10] by rw [rho, List.map_append]; rfl] at z'
    exact z'
theorem tail_ok {m : Nat} {wide : Int} {k : Nat} {zs : List (Int × Int)} {Q : Res → Prop} (g : Grown wide k zs) (w8 : wide ≤ 8) (hk : k ≤ m) (hk0 : k ≤ zs.length) (m20 : m ≤ 20) (x4 x5 x6 x7 x8 x9 x10 : Sl)
    (h : ∀ zs : List (Int × Int), rising zs = true → zs.Nodup → (∀ z ∈ zs, (0 ≤ z.1 ∧ z.1 < wide) ∧ 0 ≤ z.2 ∧ z.2 < wide) → zs ≠ [] → zs.length + 1 ≤ 2 * m → pinchOf zs = none → Q (.dat (.tuple (zs.map cellD)))) :
    tailS { nx := fun _ => Q (.dat .none), rt := Q } (rho m wide zs x4 x5 x6 x7 x8 x9 x10) := by
  unfold tailS
  simp only [dSeq, dFor, iRg1, dCons, dNil, dK]
  refine ⟨⟨by decide, by decide⟩, loopD_inv (fun n ρ => ∃ zs y6 y8, ρ = rho m wide zs x4 x5 y6 x7 y8 x9 x10 ∧ Grown wide k zs ∧ (pinchOf (zs.mergeSort leC) = none ∨ n + k ≤ zs.length)) _ 0 _ ⟨zs, _, _, rfl, g, .inr (by omega)⟩ (fun i d ρ N _ ⟨zs, y6, y8, er, g, st⟩ hN => ?_) (fun ρ ⟨zs, y6, y8, er, g, st⟩ => ?_)⟩
  · subst er
    simp only [gSet, rho, List.set_cons_succ, List.set_cons_zero]
    exact fill_turn g w8 (by omega) _ _ _ _ _ _ _ st fun zs' g' s' y => hN _ ⟨zs', _, _, rfl, g', s'⟩
  · subst er
    have few := g.few w8
    walk_at "dl"
    simp only [gSort]
    refine ⟨sort_ok zs (by omega), ?_⟩
    rw [sort_cells]
    have pm := List.mergeSort_perm zs leC
    refine h _ (sorted_rising g.nd) (pm.nodup_iff.mpr g.nd) (fun z hz => g.bd z (sorted_mem.mp hz)) (fun e => g.ne ?_) (by rw [pm.length_eq]; omega) (st.resolve_right (by rw [show (rgD 0 (Int.toNat 30)).length = 30 by decide]; omega))
    have := pm.length_eq
    rw [e] at this
    exact List.eq_nil_of_length_eq_zero this.symm
theorem grow_turn {m : Nat} {wide : Int} {zs : List (Int × Int)} {R : Res → Prop} {B N : Rho → Prop} (g : Grown wide zs.length zs) (w8 : wide ≤ 8) (hl : zs.length ≤ m) (m20 : m ≤ 20) (x4 x5 x6 x7 x8 x9 x10 : Sl)
    (hN : ∀ zs', Grown wide zs'.length zs' → zs'.length ≤ m → ∀ y7, N (rho m wide zs' x4 x5 x6 y7 x8 x9 x10)) : growB { nx := N, rt := R, bk := B, ct := N } (rho m wide zs x4 x5 x6 x7 x8 x9 x10) := by
  unfold growB
  walk_at "dl"
  by_cases lt : (((zs.map cellD).length : Nat) : Int) < m
  · simp only [decide_eq_true lt]
    have l1 : zs.length ≠ 0 := fun e => g.ne (List.eq_nil_of_length_eq_zero e)
    refine ⟨⟨by simp; omega, by simp; omega⟩, fun d hd => ?_⟩
    obtain ⟨z, hz, rfl⟩ := List.mem_map.mp hd
    refine ⟨z, rfl, ⟨by simp, by simp⟩, fun d2 hd2 => ?_⟩
    obtain ⟨y, hy, rfl⟩ := List.mem_map.mp hd2
    simp only [at0, at1]
    by_cases c1 : 0 ≤ y.1 ∧ y.1 < wide
    · simp only [c1.1, c1.2, decide_true]
      by_cases c2 : 0 ≤ y.2 ∧ y.2 < wide
      · simp only [c2.1, c2.2, decide_true]
        rw [okD_cell, (okD_cells zs).1, any_cells]
        refine ⟨rfl, ?_⟩
        by_cases c3 : y ∈ zs
        · simp only [decide_eq_true c3, Bool.not_true]
          exact hN zs g hl _
        · simp only [decide_eq_false c3, Bool.not_false]
          refine ⟨by simp; omega, ?_⟩
          have near : (y.1 - 1, y.2) ∈ zs ∨ (y.1, y.2 - 1) ∈ zs ∨ (y.1, y.2 + 1) ∈ zs ∨ (y.1 + 1, y.2) ∈ zs := by
            simp only [List.mem_cons, List.not_mem_nil, or_false] at hy
            rcases hy with rfl | rfl | rfl | rfl
            · refine .inr (.inr (.inr ?_))
              simp only [Int.sub_add_cancel]
              exact hz
            · refine .inr (.inr (.inl ?_))
              simp only [Int.sub_add_cancel]
              exact hz
            · refine .inr (.inl ?_)
              simp only [Int.add_sub_cancel]
              exact hz
            · refine .inl ?_
              simp only [Int.add_sub_cancel]
              exact hz
          have gg := g.more w8 ⟨c1, c2⟩ c3 near
          have le : (zs ++ [y]).length = zs.length + 1 := by simp
          have z' := hN (zs ++ [y]) (by rw [le]; exact gg) (by rw [le]; simp at lt; omega) (Sl.dat (cellD y))
          rw [show rho m wide (zs ++ [y]) x4 x5 x6 (Sl.dat (cellD y)) x8 x9 x10 = [Sl.pot, Sl.dat (PyData.int m), Sl.dat (PyData.int wide), Sl.dat (.list (zs.map cellD ++ [cellD y])), x4, x5, x6, (Sl.dat (cellD y)), x8, x9, x10] by rw [rho, List.map_append]; rfl] at z'
          exact z'
      · by_cases c3 : 0 ≤ y.2
        · have c4 : ¬ y.2 < wide := fun z => c2 ⟨c3, z⟩
          simp only [c3, c4, decide_true, decide_false]
          exact hN zs g hl _
        · simp only [c3, decide_false]
          exact hN zs g hl _
    · by_cases c3 : 0 ≤ y.1
      · have c4 : ¬ y.1 < wide := fun z => c1 ⟨c3, z⟩
        simp only [c3, c4, decide_true, decide_false]
        exact hN zs g hl _
      · simp only [c3, decide_false]
        exact hN zs g hl _
  · simp only [decide_eq_false lt]
    exact hN zs g hl _
theorem grow_ok {m : Nat} {wide : Int} {zs : List (Int × Int)} {Q : Res → Prop} {ds : List PyData} (g : Grown wide zs.length zs) (w8 : wide ≤ 8) (hl : zs.length ≤ m) (m20 : m ≤ 20) (x4 x5 x6 x7 x8 x9 x10 : Sl)
    (h : ∀ zs : List (Int × Int), rising zs = true → zs.Nodup → (∀ z ∈ zs, (0 ≤ z.1 ∧ z.1 < wide) ∧ 0 ≤ z.2 ∧ z.2 < wide) → zs ≠ [] → zs.length + 1 ≤ 2 * m → pinchOf zs = none → Q (.dat (.tuple (zs.map cellD)))) :
    loopD (gSet 6) growB { nx := tailS { nx := fun _ => Q (.dat .none), rt := Q }, rt := Q } ds (rho m wide zs x4 x5 x6 x7 x8 x9 x10) := by
  refine loopD_inv (fun _ ρ => ∃ zs y6 y7, ρ = rho m wide zs x4 x5 y6 y7 x8 x9 x10 ∧ Grown wide zs.length zs ∧ zs.length ≤ m) _ 0 _ ⟨zs, _, _, rfl, g, hl⟩ (fun i d ρ N _ ⟨zs, y6, y7, er, g, hl⟩ hN => ?_) (fun ρ ⟨zs, y6, y7, er, g, hl⟩ => ?_)
  · subst er
    simp only [gSet, rho, List.set_cons_succ, List.set_cons_zero]
    exact grow_turn g w8 hl m20 _ _ _ _ _ _ _ fun zs' g' l' y => hN _ ⟨zs', _, _, rfl, g', l'⟩
  · subst er
    exact tail_ok g w8 hl (Nat.le_refl _) m20 _ _ _ _ _ _ _ h
/-- the ring -/
theorem ring_ok {wide r c : Int} (w8 : wide ≤ 8) (hr : 0 ≤ r ∧ r + 2 < wide) (hc : 0 ≤ c ∧ c + 2 < wide) : Grown wide 8 [(r, c), (r, c + 1), (r, c + 2), (r + 1, c), (r + 1, c + 2), (r + 2, c), (r + 2, c + 1), (r + 2, c + 2)] := by
  have a1 : c + 2 - 1 = c + 1 := by omega
  have a2 : r + 2 - 1 = r + 1 := by omega
  have g1 := grown_one (wide := wide) (z := (r, c)) w8 ⟨⟨hr.1, by omega⟩, hc.1, by omega⟩
  have g2 := g1.more (z := (r, c + 1)) w8 ⟨⟨hr.1, by simp only; omega⟩, by simp only; omega, by simp only; omega⟩ (by simp <;> omega) (.inr (.inl (by simp)))
  have g3 := g2.more (z := (r, c + 2)) w8 ⟨⟨hr.1, by simp only; omega⟩, by simp only; omega, by simp only; omega⟩ (by simp <;> omega) (.inr (.inl (by simp [a1])))
  have g4 := g3.more (z := (r + 1, c)) w8 ⟨⟨by simp only; omega, by simp only; omega⟩, by simp only; omega, by simp only; omega⟩ (by simp <;> omega) (.inl (by simp))
  have g5 := g4.more (z := (r + 1, c + 2)) w8 ⟨⟨by simp only; omega, by simp only; omega⟩, by simp only; omega, by simp only; omega⟩ (by simp <;> omega) (.inl (by simp))
  have g6 := g5.more (z := (r + 2, c)) w8 ⟨⟨by simp only; omega, by simp only; omega⟩, by simp only; omega, by simp only; omega⟩ (by simp <;> omega) (.inl (by simp [a2]))
  have g7 := g6.more (z := (r + 2, c + 1)) w8 ⟨⟨by simp only; omega, by simp only; omega⟩, by simp only; omega, by simp only; omega⟩ (by simp <;> omega) (.inr (.inl (by simp)))
  have g8 := g7.more (z := (r + 2, c + 2)) w8 ⟨⟨by simp only; omega, by simp only; omega⟩, by simp only; omega, by simp only; omega⟩ (by simp <;> omega) (.inr (.inl (by simp [a1])))
  exact g8
end
end K25



/-! Neighbours, places, pieces of cells: plain. -/
namespace K25
open PySem PySem.Spec PyProof.Rows L2 DL
open PySem.W (AllAlike Sortable dataLe)
def besideL (z : Cell) : List Cell := [(z.1 - 1, z.2), (z.1, z.2 - 1), (z.1, z.2 + 1), (z.1 + 1, z.2)]
def nearL (zs : List Cell) (z : Cell) : List Cell := (besideL z).filter fun w => decide (w ∈ zs)
def rbL (z : Cell) : List Cell := [(z.1, z.2 + 1), (z.1 + 1, z.2)]
def placesL (zs : List Cell) : List (Cell × Cell) := zs.flatMap fun z => ((rbL z).filter fun w => decide (w ∈ zs)).map fun w => (z, w)
def dark (z : Cell) : Bool := decide ((z.1 + z.2).fmod 2 = 0)
theorem mem_near {zs : List Cell} {z w : Cell} : w ∈ nearL zs z ↔ w ∈ besideL z ∧ w ∈ zs := by simp [nearL]
theorem beside_symm {z w : Cell} (h : w ∈ besideL z) : z ∈ besideL w := by
  simp only [besideL, List.mem_cons, List.not_mem_nil, or_false, Prod.ext_iff] at h ⊢
  omega
theorem beside_nodup (z : Cell) : (besideL z).Nodup := by
  simp only [besideL, List.nodup_cons, List.mem_cons, List.not_mem_nil, or_false, Prod.ext_iff, List.nodup_nil, and_true, not_false_eq_true]
  omega
theorem near_nodup (zs : List Cell) (z : Cell) : (nearL zs z).Nodup := (beside_nodup z).filter _
theorem beside_sorted (z : Cell) : (besideL z).Pairwise fun a b => leC a b = true := by
  simp only [besideL, List.pairwise_cons, List.mem_cons, List.not_mem_nil, or_false, forall_eq_or_imp, forall_eq, leC, ltB, Bool.not_eq_true', decide_eq_false_iff_not, false_implies, implies_true, List.Pairwise.nil, and_true]
  omega
theorem near_sorted (zs : List Cell) (z : Cell) : (nearL zs z).Pairwise fun a b => leC a b = true := (beside_sorted z).filter _
inductive Conn (zs : List Cell) : Cell → Cell → Prop
  | refl {z : Cell} : z ∈ zs → Conn zs z z
  | step {z w y : Cell} : Conn zs z w → y ∈ nearL zs w → Conn zs z y
theorem Conn.left {zs : List Cell} {z w : Cell} (h : Conn zs z w) : z ∈ zs := by
  induction h with
  | refl h => exact h
  | step _ _ ih => exact ih
theorem Conn.right {zs : List Cell} {z w : Cell} (h : Conn zs z w) : w ∈ zs := by
  cases h with
  | refl h => exact h
  | step _ h => exact (mem_near.mp h).2
theorem Conn.trans {zs : List Cell} {z w y : Cell} (h : Conn zs z w) (g : Conn zs w y) : Conn zs z y := by
  induction g with
  | refl _ => exact h
  | step _ e ih => exact .step ih e
theorem Conn.symm {zs : List Cell} {z w : Cell} (h : Conn zs z w) : Conn zs w z := by
  induction h with
  | refl h => exact .refl h
  | @step w y g e ih =>
    have m := mem_near.mp e
    exact Conn.trans (.step (.refl m.2) (mem_near.mpr ⟨beside_symm m.1, g.right⟩)) ih
open Classical in
noncomputable def compL (zs : List Cell) (z : Cell) : List Cell := zs.filter fun w => decide (Conn zs z w)
open Classical in
theorem mem_comp {zs : List Cell} {z w : Cell} : w ∈ compL zs z ↔ Conn zs z w := by
  unfold compL
  rw [List.mem_filter, decide_eq_true_eq]
  exact ⟨fun h => h.2, fun h => ⟨h.right, h⟩⟩
open Classical in
/-- the least cell of its piece -/
noncomputable def isFirst (zs : List Cell) (z : Cell) : Bool := decide (∀ w, Conn zs z w → leC z w = true)
noncomputable def piecesL (zs : List Cell) : List (List Cell) := (zs.filter (isFirst zs)).map (compL zs)

/-! ### strictly sorted lists -/
theorem ltB_irrefl (a : Cell) : ltB a a = false := by simp [ltB]
theorem ltB_trans {a b c : Cell} (h : ltB a b = true) (g : ltB b c = true) : ltB a c = true := by
  simp only [ltB, decide_eq_true_eq] at h g ⊢
  omega
theorem ltB_le {a b : Cell} (h : ltB a b = true) : leC a b = true := by
  simp only [ltB, leC, decide_eq_true_eq, Bool.not_eq_true', decide_eq_false_iff_not] at h ⊢
  omega
theorem ltB_asymm {a b : Cell} (h : ltB a b = true) : ltB b a = false := by
  simp only [ltB, decide_eq_true_eq, decide_eq_false_iff_not] at h ⊢
  omega
theorem ltB_of {a b : Cell} (h : leC a b = true) (n : a ≠ b) : ltB a b = true := by
  simp only [ltB, leC, decide_eq_true_eq, Bool.not_eq_true', decide_eq_false_iff_not] at h ⊢
  rcases Classical.em (a.1 = b.1) with e | e
  · have : a.2 ≠ b.2 := fun f => n (Prod.ext e f)
    omega
  · omega
theorem rising_pw : ∀ {ws : List Cell}, rising ws = true → ws.Pairwise fun a b => ltB a b = true
  | [], _ => .nil
  | [_], _ => by simp
  | a :: b :: r, h => by
    have h' : (ltB a b && rising (b :: r)) = true := h
    rw [Bool.and_eq_true] at h'
    have ih := rising_pw h'.2
    refine List.pairwise_cons.mpr ⟨fun c hc => ?_, ih⟩
    rcases List.mem_cons.mp hc with rfl | hc
    · exact h'.1
    · exact ltB_trans h'.1 ((List.pairwise_cons.mp ih).1 c hc)
theorem pw_rising : ∀ {ws : List Cell}, (ws.Pairwise fun a b => ltB a b = true) → rising ws = true
  | [], _ => rfl
  | [_], _ => rfl
  | a :: b :: r, h => by
    rw [List.pairwise_cons] at h
    show (ltB a b && rising (b :: r)) = true
    rw [h.1 b (by simp), pw_rising h.2]
    rfl
theorem rising_nodup {ws : List Cell} (h : rising ws = true) : ws.Nodup := by
  refine (rising_pw h).imp fun {a b} l e => ?_
  subst e
  rw [ltB_irrefl] at l
  cases l
theorem rising_filter {ws : List Cell} (h : rising ws = true) (p : Cell → Bool) : rising (ws.filter p) = true := pw_rising ((rising_pw h).filter p)
theorem rising_ext : ∀ {xs ys : List Cell}, rising xs = true → rising ys = true → (∀ z, z ∈ xs ↔ z ∈ ys) → xs = ys
  | [], [], _, _, _ => rfl
  | [], y :: ys, _, _, h => by have := (h y).mpr (by simp); cases this
  | x :: xs, [], _, _, h => by have := (h x).mp (by simp); cases this
  | x :: xs, y :: ys, hx, hy, h => by
    have px := List.pairwise_cons.mp (rising_pw hx)
    have py := List.pairwise_cons.mp (rising_pw hy)
    have e : x = y := by
      rcases List.mem_cons.mp ((h x).mp (by simp)) with e | e
      · exact e
      · rcases List.mem_cons.mp ((h y).mpr (by simp)) with e2 | e2
        · exact e2.symm
        · have l1 := py.1 x e
          have l2 := ltB_asymm (px.1 y e2)
          rw [l1] at l2
          cases l2
    subst e
    have nx := List.nodup_cons.mp (rising_nodup hx)
    have ny := List.nodup_cons.mp (rising_nodup hy)
    rw [rising_ext (pw_rising px.2) (pw_rising py.2) fun z => ?_]
    have hz := h z
    rw [List.mem_cons, List.mem_cons] at hz
    constructor
    · intro m
      rcases hz.mp (.inr m) with e | e
      · subst e; exact absurd m nx.1
      · exact e
    · intro m
      rcases hz.mpr (.inr m) with e | e
      · subst e; exact absurd m ny.1
      · exact e
theorem sort_is {xs ys : List Cell} (nd : xs.Nodup) (hy : rising ys = true) (h : ∀ z, z ∈ xs ↔ z ∈ ys) : xs.mergeSort leC = ys :=
  rising_ext (sorted_rising nd) hy fun z => sorted_mem.trans (h z)
theorem sort_rising {xs : List Cell} (h : rising xs = true) : xs.mergeSort leC = xs := sort_is (rising_nodup h) h fun _ => Iff.rfl
theorem near_rising (zs : List Cell) (z : Cell) : rising (nearL zs z) = true := by
  have := near_sorted zs z
  have nd := near_nodup zs z
  refine pw_rising ?_
  generalize nearL zs z = l at this nd
  induction l with
  | nil => exact .nil
  | cons a l ih =>
    rw [List.pairwise_cons] at this ⊢
    rw [List.nodup_cons] at nd
    exact ⟨fun b hb => ltB_of (this.1 b hb) (fun e => nd.1 (by rw [e]; exact hb)), ih this.2 nd.2⟩

/-! ### going on from a cell -/
theorem nodup_le : ∀ (l D : List Cell), l.Nodup → (∀ x ∈ l, x ∈ D) → l.length ≤ D.length
  | [], _, _, _ => Nat.zero_le _
  | a :: l, D, h, h1 => by
    rw [List.nodup_cons] at h
    have ha := h1 a (by simp)
    have := nodup_le l (D.erase a) h.2 fun x hx => by
      have hx1 := h1 x (by simp [hx])
      exact (List.mem_erase_of_ne (fun e => h.1 (by rw [← e]; exact hx))).mpr hx1
    rw [List.length_erase_of_mem ha] at this
    have hp : 0 < D.length := List.length_pos_of_mem ha
    simp only [List.length_cons]
    omega
structure Bfs (zs : List Cell) (c : Cell) (line : List Cell) (t : Nat) : Prop where
  nd : line.Nodup
  conn : ∀ w ∈ line, Conn zs c w
  hd : c ∈ line
  closed : ∀ (k : Nat) w y, k < t → line[k]? = some w → y ∈ nearL zs w → y ∈ line
  le : t ≤ line.length
def stepL (zs line : List Cell) (w : Cell) : List Cell := line ++ (nearL zs w).filter fun y => !decide (y ∈ line)
theorem Bfs.start {zs : List Cell} {c : Cell} (h : c ∈ zs) : Bfs zs c [c] 0 :=
  ⟨by simp, fun w hw => by rw [List.mem_singleton.mp hw]; exact .refl h, by simp, fun k w y hk => absurd hk (Nat.not_lt_zero _), Nat.zero_le _⟩
theorem Bfs.step {zs : List Cell} {c w : Cell} {line : List Cell} {t : Nat} (b : Bfs zs c line t) (h : line[t]? = some w) : Bfs zs c (stepL zs line w) (t + 1) := by
  have hw : w ∈ line := List.mem_of_getElem? h
  have ht := (List.getElem?_eq_some_iff.mp h).1
  refine ⟨?_, fun y hy => ?_, List.mem_append_left _ b.hd, fun k v y hk hv hy => ?_, by simp only [stepL, List.length_append]; omega⟩
  · unfold stepL
    rw [List.nodup_append]
    refine ⟨b.nd, (near_nodup zs w).filter _, fun a ha d hd e => ?_⟩
    subst e
    have := (List.mem_filter.mp hd).2
    simp [ha] at this
  · rcases List.mem_append.mp hy with h | h
    · exact b.conn y h
    · exact .step (b.conn w hw) (List.mem_filter.mp h).1
  · have kl : k < line.length := by omega
    unfold stepL at hv ⊢
    rw [List.getElem?_append_left kl] at hv
    rcases Nat.lt_or_ge k t with q | q
    · exact List.mem_append_left _ (b.closed k v y q hv hy)
    · have : k = t := by omega
      subst this
      rw [h] at hv
      cases hv
      by_cases m : y ∈ line
      · exact List.mem_append_left _ m
      · exact List.mem_append_right _ (List.mem_filter.mpr ⟨hy, by simp [m]⟩)
theorem Bfs.sub {zs : List Cell} {c : Cell} {line : List Cell} {t : Nat} (b : Bfs zs c line t) : ∀ w ∈ line, w ∈ zs := fun w hw => (b.conn w hw).right
theorem Bfs.few {zs : List Cell} {c : Cell} {line : List Cell} {t : Nat} (b : Bfs zs c line t) : line.length ≤ zs.length := nodup_le _ _ b.nd b.sub
theorem Bfs.all {zs : List Cell} {c : Cell} {line : List Cell} (b : Bfs zs c line line.length) : ∀ w, w ∈ line ↔ Conn zs c w := by
  refine fun w => ⟨b.conn w, fun h => ?_⟩
  induction h with
  | refl _ => exact b.hd
  | @step v y g e ih =>
    obtain ⟨k, hk, ek⟩ := List.getElem_of_mem ih
    exact b.closed k v y hk (by rw [List.getElem?_eq_getElem hk, ek]) e
theorem Bfs.sorted {zs : List Cell} {c : Cell} {line : List Cell} (b : Bfs zs c line line.length) (r : rising zs = true) : line.mergeSort leC = compL zs c :=
  sort_is b.nd (rising_filter r _) fun z => (b.all z).trans mem_comp.symm
/-- cells put behind a line unless they are in it -/
theorem fold_new : ∀ (ys line : List Cell), ys.Nodup → ys.foldl (fun l y => if y ∈ l then l else l ++ [y]) line = line ++ ys.filter fun y => !decide (y ∈ line)
  | [], line, _ => by simp
  | y :: ys, line, nd => by
    rw [List.nodup_cons] at nd
    rw [List.foldl_cons]
    by_cases m : y ∈ line
    · rw [if_pos m, fold_new ys line nd.2]
      simp [m]
    · rw [if_neg m, fold_new ys (line ++ [y]) nd.2]
      have : (ys.filter fun x => !decide (x ∈ line ++ [y])) = ys.filter fun x => !decide (x ∈ line) := by
        refine List.filter_congr fun x hx => ?_
        have : x ≠ y := fun e => nd.1 (e ▸ hx)
        simp [this]
      rw [this]
      simp [m]

/-! ### the pieces, cell by cell -/
/-- some cells of xs come to w -/
def Seen (zs xs : List Cell) (w : Cell) : Prop := ∃ z ∈ xs, Conn zs z w
theorem seen_snoc {zs xs : List Cell} {c w : Cell} : Seen zs (xs ++ [c]) w ↔ Seen zs xs w ∨ Conn zs c w := by
  constructor
  · rintro ⟨z, hz, h⟩
    rcases List.mem_append.mp hz with m | m
    · exact .inl ⟨z, m, h⟩
    · rw [List.mem_singleton.mp m] at h; exact .inr h
  · rintro (⟨z, m, h⟩ | h)
    · exact ⟨z, List.mem_append_left _ m, h⟩
    · exact ⟨c, by simp, h⟩
theorem Seen.go {zs xs : List Cell} {w y : Cell} (h : Seen zs xs w) (g : Conn zs w y) : Seen zs xs y := by
  obtain ⟨z, m, c⟩ := h
  exact ⟨z, m, c.trans g⟩
noncomputable def piecesTo (zs xs : List Cell) : List (List Cell) := (xs.filter (isFirst zs)).map (compL zs)
section
variable {zs xs ys : List Cell} {c : Cell}
open Classical in
theorem first_not (r : rising zs = true) (e : zs = xs ++ c :: ys) (h : Seen zs xs c) : isFirst zs c = false := by
  unfold isFirst
  rw [decide_eq_false_iff_not]
  intro all
  obtain ⟨z, hz, g⟩ := h
  have l1 := all z g.symm
  have pw := rising_pw r
  rw [e, List.pairwise_append] at pw
  have l2 := pw.2.2 z hz c (by simp)
  simp [leC, l2] at l1
open Classical in
theorem first_is (r : rising zs = true) (e : zs = xs ++ c :: ys) (h : ¬ Seen zs xs c) : isFirst zs c = true := by
  unfold isFirst
  rw [decide_eq_true_eq]
  intro w g
  have hw := g.right
  rw [e] at hw
  rcases List.mem_append.mp hw with m | m
  · exact absurd ⟨w, m, g.symm⟩ h
  · have pw := rising_pw r
    rw [e, List.pairwise_append] at pw
    rcases List.mem_cons.mp m with rfl | m
    · simp [leC, ltB_irrefl]
    · exact ltB_le ((List.pairwise_cons.mp pw.2.1).1 w m)
theorem pieces_old (r : rising zs = true) (e : zs = xs ++ c :: ys) (h : Seen zs xs c) : piecesTo zs (xs ++ [c]) = piecesTo zs xs := by
  simp [piecesTo, first_not r e h]
theorem pieces_new (r : rising zs = true) (e : zs = xs ++ c :: ys) (h : ¬ Seen zs xs c) : piecesTo zs (xs ++ [c]) = piecesTo zs xs ++ [compL zs c] := by
  simp [piecesTo, first_is r e h]
theorem seen_old (h : Seen zs xs c) (w : Cell) : Seen zs (xs ++ [c]) w ↔ Seen zs xs w := by
  rw [seen_snoc]
  exact ⟨fun z => z.elim id fun g => h.go g, .inl⟩
end

/-! ### the piece that has a cell -/
theorem comp_same {zs : List Cell} {z w : Cell} (h : Conn zs z w) : compL zs z = compL zs w := by
  unfold compL
  refine List.filter_congr fun y _ => ?_
  have : Conn zs z y ↔ Conn zs w y := ⟨fun g => h.symm.trans g, fun g => h.trans g⟩
  simp [this]
open Classical in
theorem find_first : ∀ (zs : List Cell), rising zs = true → ∀ z ∈ zs, ∃ f ∈ zs, Conn zs z f ∧ isFirst zs f = true := by
  intro zs r z hz
  have ne : compL zs z ≠ [] := fun e => by
    have := mem_comp.mpr (Conn.refl hz)
    rw [e] at this
    cases this
  obtain ⟨f, rest, e⟩ := List.exists_cons_of_ne_nil ne
  have g : Conn zs z f := mem_comp.mp (by rw [e]; simp)
  refine ⟨f, g.right, g, ?_⟩
  unfold isFirst
  rw [decide_eq_true_eq]
  intro w gw
  have hw : w ∈ compL zs z := mem_comp.mpr (g.trans gw)
  have pw := rising_pw (rising_filter r fun w => decide (Conn zs z w))
  have pw' : (compL zs z).Pairwise fun a b => ltB a b = true := pw
  rw [e, List.pairwise_cons] at pw'
  rw [e] at hw
  rcases List.mem_cons.mp hw with rfl | m
  · simp [leC, ltB_irrefl]
  · exact ltB_le (pw'.1 w m)
open Classical in
theorem first_unique {zs : List Cell} {a b : Cell} (ha : isFirst zs a = true) (hb : isFirst zs b = true) (g : Conn zs a b) : a = b := by
  unfold isFirst at ha hb
  rw [decide_eq_true_eq] at ha hb
  have l1 := ha b g
  have l2 := hb a g.symm
  simp only [leC, ltB, Bool.not_eq_true', decide_eq_false_iff_not] at l1 l2
  apply Prod.ext <;> omega
/-- the pieces that have z: one -/
theorem pieces_with {zs : List Cell} (r : rising zs = true) {z : Cell} (hz : z ∈ zs) : (piecesL zs).filter (fun p => decide (z ∈ p)) = [compL zs z] := by
  obtain ⟨f, hf, g, h1⟩ := find_first zs r z hz
  unfold piecesL
  rw [List.filter_map]
  have key : (zs.filter (isFirst zs)).filter ((fun p => decide (z ∈ p)) ∘ compL zs) = [f] := by
    refine rising_ext (rising_filter (rising_filter r _) _) rfl fun y => ?_
    rw [List.mem_filter, List.mem_filter, List.mem_singleton, Function.comp_apply, decide_eq_true_eq, mem_comp]
    constructor
    · rintro ⟨⟨_, hy⟩, gy⟩
      exact (first_unique h1 hy (g.symm.trans gy.symm)).symm
    · rintro rfl
      exact ⟨⟨hf, h1⟩, g.symm⟩
  rw [key, List.map_singleton, comp_same g]

/-! ### places counted from both colours -/
def cnt (P : Cell → Bool) (s : Cell → Cell) (zs : List Cell) : Nat := (zs.filter fun z => P z && decide (s z ∈ zs)).length
theorem perm_of {xs ys : List Cell} (hx : xs.Nodup) (hy : ys.Nodup) (h : ∀ z, z ∈ xs ↔ z ∈ ys) : xs.length = ys.length :=
  Nat.le_antisymm (nodup_le _ _ hx fun z hz => (h z).mp hz) (nodup_le _ _ hy fun z hz => (h z).mpr hz)
theorem cnt_shift {P P' : Cell → Bool} {s s' : Cell → Cell} {zs : List Cell} (nd : zs.Nodup) (i1 : ∀ z, s' (s z) = z) (i2 : ∀ z, s (s' z) = z) (hp : ∀ z, P' (s z) = P z) : cnt P s zs = cnt P' s' zs := by
  unfold cnt
  have inj : ∀ a b, s a = s b → a = b := fun a b e => by rw [← i1 a, e, i1]
  rw [← List.length_map (f := s)]
  refine perm_of ?_ (nd.filter _) fun z => ?_
  · rw [List.nodup_iff_pairwise_ne] at *
    rw [List.pairwise_map]
    exact (List.Pairwise.filter _ nd).imp fun h e => h (inj _ _ e)
  · rw [List.mem_map, List.mem_filter]
    constructor
    · rintro ⟨y, hy, rfl⟩
      rw [List.mem_filter] at hy
      simp only [Bool.and_eq_true, decide_eq_true_eq] at hy ⊢
      exact ⟨hy.2.2, by rw [hp]; exact hy.2.1, by rw [i1]; exact hy.1⟩
    · rintro ⟨h1, h2⟩
      simp only [Bool.and_eq_true, decide_eq_true_eq] at h2
      exact ⟨s' z, List.mem_filter.mpr ⟨h2.2, by simp only [Bool.and_eq_true, decide_eq_true_eq]; exact ⟨by rw [← hp, i2]; exact h2.1, by rw [i2]; exact h1⟩⟩, i2 z⟩
theorem cnt_split (P : Cell → Bool) (s : Cell → Cell) (zs : List Cell) : cnt (fun _ => true) s zs = cnt P s zs + cnt (fun z => !P z) s zs := by
  unfold cnt
  generalize hm : (fun z => decide (s z ∈ zs)) = m
  have e : ∀ z, decide (s z ∈ zs) = m z := fun z => by rw [← hm]
  simp only [e]
  clear hm e
  induction zs with
  | nil => rfl
  | cons z r ih =>
    simp only [List.filter_cons]
    cases P z <;> cases m z <;> simp at ih ⊢ <;> omega
theorem sum_cnt (P : Cell → Bool) (S zs : List Cell) (f : Cell → List Cell) (ss : List (Cell → Cell)) (hf : ∀ z, f z = ss.map fun s => s z) :
    ((zs.filter P).map fun z => ((f z).filter fun w => decide (w ∈ S)).length).sum = (ss.map fun s => (zs.filter fun z => P z && decide (s z ∈ S)).length).sum := by
  induction zs with
  | nil =>
    simp only [List.filter_nil, List.map_nil, List.sum_nil, List.length_nil]
    clear hf
    induction ss with
    | nil => rfl
    | cons s ss ih => simpa using ih
  | cons z r ih =>
    have e : ∀ ss : List (Cell → Cell), (ss.map fun s => ((z :: r).filter fun z => P z && decide (s z ∈ S)).length).sum = (if P z = true then (ss.filter fun s => decide (s z ∈ S)).length else 0) + (ss.map fun s => (r.filter fun z => P z && decide (s z ∈ S)).length).sum := by
      intro ss
      induction ss with
      | nil => simp
      | cons s ss ih2 =>
        rw [List.map_cons, List.sum_cons, ih2, List.map_cons, List.sum_cons, List.filter_cons, List.filter_cons]
        cases P z <;> cases decide (s z ∈ S) <;> simp <;> omega
    rw [e ss, ← ih, List.filter_cons]
    have l : ((f z).filter fun w => decide (w ∈ S)).length = (ss.filter fun s => decide (s z ∈ S)).length := by
      rw [hf z, List.filter_map, List.length_map]
      rfl
    cases P z
    · simp
    · simp [l]
theorem len_flat (zs : List Cell) : ∀ xs : List Cell, (xs.flatMap fun z => ((rbL z).filter fun w => decide (w ∈ zs)).map fun w => (z, w)).length = (xs.map fun z => ((rbL z).filter fun w => decide (w ∈ zs)).length).sum
  | [] => rfl
  | x :: xs => by
    rw [List.flatMap_cons, List.length_append, List.length_map, len_flat zs xs, List.map_cons, List.sum_cons]
def sU (z : Cell) : Cell := (z.1 - 1, z.2)
def sL (z : Cell) : Cell := (z.1, z.2 - 1)
def sR (z : Cell) : Cell := (z.1, z.2 + 1)
def sD (z : Cell) : Cell := (z.1 + 1, z.2)
theorem dark_flip {z w : Cell} (h : w.1 + w.2 = z.1 + z.2 + 1 ∨ w.1 + w.2 = z.1 + z.2 - 1) : dark w = !dark z := by
  unfold dark
  have e : ∀ i : Int, i.fmod 2 = i % 2 := fun i => Int.fmod_eq_emod_of_nonneg i (by decide)
  rw [e, e]
  by_cases q : (z.1 + z.2) % 2 = 0
  · have : ¬ (w.1 + w.2) % 2 = 0 := by omega
    simp [q, this]
  · have : (w.1 + w.2) % 2 = 0 := by omega
    simp [q, this]
theorem deg_sum {zs : List Cell} (nd : zs.Nodup) (P : Cell → Bool) (hP : ∀ z w : Cell, (w.1 + w.2 = z.1 + z.2 + 1 ∨ w.1 + w.2 = z.1 + z.2 - 1) → P w = !P z) :
    ((zs.filter P).map fun z => (nearL zs z).length).sum = (placesL zs).length := by
  have a := sum_cnt P zs zs besideL [sU, sL, sR, sD] fun z => rfl
  have b := sum_cnt (fun _ => true) zs zs rbL [sR, sD] fun z => rfl
  simp only [List.map_cons, List.map_nil, List.sum_cons, List.sum_nil, Bool.true_and] at a b
  have e1 : (zs.filter fun _ => true) = zs := by simp
  rw [e1] at b
  unfold placesL
  rw [len_flat, b]
  unfold nearL
  rw [a]
  have u : cnt P sU zs = cnt (fun z => !P z) sD zs := cnt_shift nd (fun z => by simp [sU, sD]) (fun z => by simp [sU, sD]) fun z => by rw [hP z (sU z) (.inr (by simp only [sU]; omega))]; simp
  have l : cnt P sL zs = cnt (fun z => !P z) sR zs := cnt_shift nd (fun z => by simp [sL, sR]) (fun z => by simp [sL, sR]) fun z => by rw [hP z (sL z) (.inr (by simp only [sL]; omega))]; simp
  have r := cnt_split P sR zs
  have d := cnt_split P sD zs
  unfold cnt at u l r d
  simp only [Bool.true_and] at r d u l
  omega
end K25



/-! The program's defs over floors: colours, neighbours, places, looks. -/
namespace K25
open PySem PySem.Spec PyProof.Rows L2 DL
open PySem.W (AllAlike Sortable dataLe)
local macro_rules | `(tactic| walk_at "dl") => `(tactic| simp only [dSeq, dRet, dRetO, dRetN, dIsi, dName, dAndV, dOrV, dNotV, dAnd, dOr, dNot, dTr, dIf, dIfS, dNext, dNever, dBreak, dCont, dExpr, dSet, dOwn, dAsg, gSet, gTupD, gsCons, gsNil, dCall, dCallK, dACons, dANil, dAPot, dOp, dCB, dCons, dNil, dTup, dLst, dChain, gLen, gIx, gAbs, gInt, gTwo, gTuple, gList, dSl, gSl, dPart, dNoPart, dNeg, dRevT, startD, argSl, List.map_cons, List.map_nil, List.cons_append, List.nil_append, List.append_nil, List.getElem?_cons_zero, List.getElem?_cons_succ, List.set_cons_zero, List.set_cons_succ, List.length_cons, List.length_nil, List.replicate_succ, List.replicate_zero, dK, gCmpI, gLt, gI, gAdd, gMul, gEq, gIs, gIn, Res.data, oData, oLst, oLc, oList, oListRg, iSeq, iRg1, iRg2, iZip_, iEnumD, wipeD, dYes, dPotIx, dPotSet, dPeek, cPeek, dFor, dDat, dFreeze, dInSet, dSetSet, dSortSet, dPeekT, cPeekT, dTmpNew, dND, dNO, dNNil, dSpoil, oMul, dIxOwn, dInDic, dDicNew, dPar, dPar3, zD, zO, zC, xD, xO, RZ.sl, Res.sl, dDictP, dAppend, dExtend, dAugI, dTupOwn, oCall, Nat.reduceAdd, Nat.zero_add, Nat.reduceLeDiff, true_and, and_true, Bool.false_eq_true, if_true, if_false])
local macro_rules | `(tactic| walk_at "dv") => `(tactic| simp [isTup, isStr, DL.isInt, DL.isBool, isList, okD_int, okD_bool, okD_none, eqv_int, at0, at1, isNone])
section
variable {P : Program} {w : World} {K : PySem.W.Frag} {mg : Str → Option Value} {base : Heap}
def dfCell (f : Cell → PyData) : DF := fun as Q => ∃ z : Cell, as = [.d (cellD z)] ∧ Q (.dat (f z))
theorem dfCell_len {f : Cell → PyData} : ∀ as Q, dfCell f as Q → as.length = 1 := by
  rintro as Q ⟨z, rfl, _⟩
  rfl
theorem G_is_dark (T : Txt K mg) : Good P w K mg base "is_dark" s_is_dark 1 ["cell"] (dfCell fun z => .bool (dark z)) := by
  refine good_mk (N := ["cell"]) T.f_is_dark sc_is_dark (fun _ _ _ _ _ _ us hl => match us, hl with | [_], _ => rfl) dfCell_len (fun f cdv A outer s H E hr =>
    (dss_one (ds_ret (de_cmp (od_eq hr.u) (de_op od_mod (de_op od_add (de_ix (de_name 0) de_int) (de_ix (de_name 0) de_int)) de_int) de_int (nomark _))))) ?_
  rintro as Q ⟨z, rfl, h⟩
  walk_at "dl"
  simp only [at0, at1, okD_int, eqv_int, Bool.and_self]
  exact ⟨by decide, trivial, h⟩
def dfRB : DF := fun as Q => ∃ z : Cell, as = [.d (cellD z)] ∧ Q (.own ((rbL z).map cellD))
theorem dfRB_len : ∀ as Q, dfRB as Q → as.length = 1 := by
  rintro as Q ⟨z, rfl, _⟩
  rfl
theorem ok_in (zs : List Cell) (y : Cell) : (okD (cellD y) && okD (.tuple (zs.map cellD))) = true := by rw [okD_cell, (okD_cells zs).2]; rfl
theorem ok_inL (zs : List Cell) (y : Cell) : (okD (cellD y) && okD (.list (zs.map cellD))) = true := by rw [okD_cell, (okD_cells zs).1]; rfl
/-! ### neighbours -/
abbrev floorD (zs : List Cell) : PyData := .tuple [.str "floor", .tuple (zs.map cellD)]
def nearKV (zs : List Cell) : List (List Int × PyData) := zs.map fun z => ([z.1, z.2], .list ((nearL zs z).map cellD))
theorem tups_as {d : PyData} {zs : List Cell} (h : AsCells d zs) : TupsAs d (zs.map fun z => [z.1, z.2]) := by
  rcases h with rfl | rfl
  · exact .inl (by rw [cells_tups])
  · exact .inr (by rw [cells_tups])
theorem key_inj {z w : Cell} (h : [z.1, z.2] = [w.1, w.2]) : z = w := by
  injection h with h1 h2
  injection h2 with h2
  exact Prod.ext h1 h2
theorem keys_nodup {zs : List Cell} (nd : zs.Nodup) : (zs.map fun z => [z.1, z.2]).Nodup := by
  rw [List.nodup_iff_pairwise_ne] at *
  rw [List.pairwise_map]
  exact nd.imp fun h e => h (key_inj e)
def dfNear : DF := fun as Q => ∃ d zs, as = [.d d] ∧ AsCells d zs ∧ (zs.Nodup ∧ zs.length < 64) ∧ Q (.dat (dictD (nearKV zs)))
theorem dfNear_len : ∀ as Q, dfNear as Q → as.length = 1 := by
  rintro as Q ⟨d, zs, rfl, _⟩
  rfl
def dfFloor (C : List Cell → Prop) (f : List Cell → PyData) : DF := fun as Q => ∃ zs, as = [.d (floorD zs)] ∧ C zs ∧ Q (.dat (f zs))
theorem dfFloor_len {C : List Cell → Prop} {f : List Cell → PyData} : ∀ as Q, dfFloor C f as Q → as.length = 1 := by
  rintro as Q ⟨zs, rfl, _⟩
  rfl
/-! ### places -/
abbrev placeD (q : Cell × Cell) : PyData := .tuple [cellD q.1, cellD q.2]
def placesTo (zs xs : List Cell) : List (Cell × Cell) := xs.flatMap fun z => ((rbL z).filter fun w => decide (w ∈ zs)).map fun w => (z, w)
theorem placesTo_snoc (zs xs : List Cell) (z : Cell) : placesTo zs (xs ++ [z]) = placesTo zs xs ++ ((rbL z).filter fun w => decide (w ∈ zs)).map fun w => (z, w) := by simp [placesTo]
theorem placesTo_len (zs : List Cell) : ∀ xs : List Cell, (placesTo zs xs).length ≤ 2 * xs.length
  | [] => Nat.zero_le _
  | x :: xs => by
    have ih := placesTo_len zs xs
    have b3 : ((rbL x).filter fun y => decide (y ∈ zs)).length ≤ 2 := Nat.le_trans (List.length_filter_le _ _) (by simp [rbL])
    unfold placesTo at ih ⊢
    rw [List.flatMap_cons, List.length_append, List.length_map, List.length_cons]
    omega
def dfPlaces : DF := fun as Q => ∃ zs, as = [.d (floorD zs)] ∧ zs.length < 64 ∧ Q (.own ((placesL zs).map placeD))
theorem dfPlaces_len : ∀ as Q, dfPlaces as Q → as.length = 1 := by
  rintro as Q ⟨zs, rfl, _⟩
  rfl
/-! ### looks -/
/-- cells of a floor -/
structure FloorOk (zs : List Cell) : Prop where
  r : rising zs = true
  b : ∀ z ∈ zs, (0 ≤ z.1 ∧ z.1 ≤ 7) ∧ 0 ≤ z.2 ∧ z.2 ≤ 7
  l : zs.length ≤ 40
  n : zs ≠ []
  p : pinchOf zs = none
theorem FloorOk.nd {zs : List Cell} (h : FloorOk zs) : zs.Nodup := rising_nodup h.r
theorem FloorOk.some {zs : List Cell} (h : FloorOk zs) : someCells (.tuple (zs.map cellD)) = true := by
  have h1 : 1 ≤ zs.length := List.length_pos_iff.mpr h.n
  have : (zs.map cellD).all cellOk = true := by
    rw [List.all_map, List.all_eq_true]
    intro z hz
    have b := h.b z hz
    simp only [Function.comp_apply, cellOk, isIntTo, Bool.and_eq_true, decide_eq_true_eq]
    exact ⟨⟨b.1.1, b.1.2⟩, b.2.1, b.2.2⟩
  unfold someCells
  simp only []
  rw [List.length_map, this, decide_eq_true h1, decide_eq_true h.l]
  rfl
theorem FloorOk.flaw {zs : List Cell} (h : FloorOk zs) : flawD (floorD zs) = .none := by
  rw [flaw_zs (by decide) h.some, h.r, h.p]
  rfl
theorem okD_floor (zs : List Cell) : okD (floorD zs) = true := by
  have h := okD_cells zs
  obtain ⟨h1, h2, h3⟩ := cells_lay zs
  have st : PyData.strOk "floor" = true := by decide +kernel
  simp [okD, SeqAt.shaped, PyData.hasDict, PyData.hasDictAll, PyData.canLay0, PyData.canLayAll0, PyData.depth, PyData.depthAll, h1, h3, st]
  omega
theorem G_check_floor (T : Txt K mg) : Good P w K mg base "check_floor" s_check_floor 6 ["floor"] (dfFloor FloorOk fun _ => .none) := by
  have G_floor_is_right := G_floor_is_right (P := P) (w := w) (base := base) T
  refine good_mk (N := ["floor"]) T.f_check_floor sc_check_floor (fun _ _ _ _ _ _ us hl => match us, hl with | [_], _ => rfl) dfFloor_len (fun f cdv A outer s H E hr =>
    (dss_one (ds_if (dc_not (dc_val (de_callG G_floor_is_right (hr.mono (by decide)) (da_cons (de_name 0) da_nil))))
  (dss_one ds_never)
  dss_nil))) ?_
  rintro as Q ⟨zs, rfl, hz, h⟩
  walk_at "dl"
  refine ⟨okD_floor zs, ?_⟩
  have e := hz.flaw
  simp only [e]
  exact h
def dfPlaces' : DF := fun as Q => ∃ zs, as = [.d (floorD zs)] ∧ FloorOk zs ∧ Q (.own ((placesL zs).map placeD))
theorem dfPlaces'_len : ∀ as Q, dfPlaces' as Q → as.length = 1 := by
  rintro as Q ⟨zs, rfl, _⟩
  rfl
/-- a floor and a cell of it -/
def dfAt (f : List Cell → Cell → PyData) : DF := fun as Q => ∃ zs z, as = [.d (floorD zs), .d (cellD z)] ∧ FloorOk zs ∧ z ∈ zs ∧ Q (.dat (f zs z))
theorem dfAt_len {f : List Cell → Cell → PyData} : ∀ as Q, dfAt f as Q → as.length = 2 := by
  rintro as Q ⟨zs, z, rfl, _⟩
  rfl
theorem cellOk_in {zs : List Cell} {z : Cell} (h : FloorOk zs) (hz : z ∈ zs) : cellOk (cellD z) = true := by
  have b := h.b z hz
  simp only [cellOk, isIntTo, Bool.and_eq_true, decide_eq_true_eq]
  exact ⟨⟨b.1.1, b.1.2⟩, b.2.1, b.2.2⟩
theorem look_near : ∀ (zs xs : List Cell) (z : Cell), z ∈ xs → lookT (xs.map fun z => ([z.1, z.2], PyData.list ((nearL zs z).map cellD))) [z.1, z.2] = some (.list ((nearL zs z).map cellD))
  | zs, x :: xs, z, h => by
    rw [List.map_cons, lookT_cons]
    by_cases e : x = z
    · subst e
      rw [if_pos rfl]
    · rw [if_neg fun q => e (key_inj q)]
      exact look_near zs xs z ((List.mem_cons.mp h).resolve_left fun q => e q.symm)
end
end K25



namespace K25
open PySem PySem.Spec PyProof.Rows L2 DL
open PySem.W (AllAlike Sortable dataLe)
local macro_rules | `(tactic| walk_at "dl") => `(tactic| simp only [dSeq, dRet, dRetO, dRetN, dIsi, dName, dAndV, dOrV, dNotV, dAnd, dOr, dNot, dTr, dIf, dIfS, dNext, dNever, dBreak, dCont, dExpr, dSet, dOwn, dAsg, gSet, gTupD, gsCons, gsNil, dCall, dCallK, dACons, dANil, dAPot, dOp, dCB, dCons, dNil, dTup, dLst, dChain, gLen, gIx, gAbs, gInt, gTwo, gTuple, gList, dSl, gSl, dPart, dNoPart, dNeg, dRevT, startD, argSl, List.map_cons, List.map_nil, List.cons_append, List.nil_append, List.append_nil, List.getElem?_cons_zero, List.getElem?_cons_succ, List.set_cons_zero, List.set_cons_succ, List.length_cons, List.length_nil, List.replicate_succ, List.replicate_zero, dK, gCmpI, gLt, gI, gAdd, gMul, gEq, gIs, gIn, Res.data, oData, oLst, oLc, oList, oListRg, iSeq, iRg1, iRg2, iZip_, iEnumD, wipeD, dYes, dPotIx, dPotSet, dPeek, cPeek, dFor, dDat, dFreeze, dInSet, dSetSet, dSortSet, dPeekT, cPeekT, dTmpNew, dND, dNO, dNNil, dSpoil, oMul, dIxOwn, dInDic, dDicNew, dPar, dPar3, zD, zO, zC, xD, xO, RZ.sl, Res.sl, dDictP, dAppend, dExtend, dAugI, dTupOwn, oCall, dJoin, oSplit, iSig, iEnumSD, gInS, dPopNew, dPotDiv, dCallPot, dRevL, Nat.reduceAdd, Nat.zero_add, Nat.reduceLeDiff, true_and, and_true, Bool.false_eq_true, if_true, if_false])
local macro_rules | `(tactic| walk_at "dv") => `(tactic| simp [isTup, isStr, DL.isInt, DL.isBool, isList, okD_int, okD_bool, okD_none, eqv_int, at0, at1, isNone])
section
variable {P : Program} {w : World} {K : PySem.W.Frag} {mg : Str → Option Value} {base : Heap}
def dfSome (C : List Cell → Prop) (f : List Cell → PyData) : DF := fun as Q => ∃ d zs, as = [.d d] ∧ AsCells d zs ∧ C zs ∧ Q (.dat (f zs))
theorem dfSome_len {C : List Cell → Prop} {f : List Cell → PyData} : ∀ as Q, dfSome C f as Q → as.length = 1 := by
  rintro as Q ⟨d, zs, rfl, _⟩
  rfl
theorem seq_cells {d : PyData} {zs : List Cell} (h : AsCells d zs) {Qd : List PyData → Prop} (q : Qd (zs.map cellD)) : dSeqQ Qd d := by
  rcases h with rfl | rfl <;> exact q
/-- a cell that pinches -/
def hasAt (zs : List Cell) (z : Cell) : Bool :=
  (decide ((z.1 + 1, z.2 + 1) ∈ zs) && !decide ((z.1, z.2 + 1) ∈ zs) && !decide ((z.1 + 1, z.2) ∈ zs)) || (decide ((z.1 + 1, z.2 - 1) ∈ zs) && !decide ((z.1, z.2 - 1) ∈ zs) && !decide ((z.1 + 1, z.2) ∈ zs))
def hasPinch (zs : List Cell) : Bool := zs.any (hasAt zs)
theorem hasAt_is (zs : List Cell) (z : Cell) : hasAt zs z = (pinchAt (fun c => decide (c ∈ zs)) z).isSome := by
  unfold hasAt pinchAt
  cases decide ((z.1 + 1, z.2 + 1) ∈ zs) && !decide ((z.1, z.2 + 1) ∈ zs) && !decide ((z.1 + 1, z.2) ∈ zs) <;>
    cases decide ((z.1 + 1, z.2 - 1) ∈ zs) && !decide ((z.1, z.2 - 1) ∈ zs) && !decide ((z.1 + 1, z.2) ∈ zs) <;> rfl
theorem hasPinch_is (zs : List Cell) : hasPinch zs = (pinchOf zs).isSome := by
  unfold hasPinch pinchOf
  generalize hf : (fun c => decide (c ∈ zs)) = S
  have e : ∀ z, hasAt zs z = (pinchAt S z).isSome := fun z => by rw [← hf]; exact hasAt_is zs z
  generalize hasAt zs = f at e
  clear hf
  induction zs with
  | nil => rfl
  | cons z zs ih =>
    rw [List.any_cons, List.findSome?_cons, e z, ih]
    cases pinchAt S z <;> simp
theorem P_pinch_of (T : Txt K mg) : Good P w K mg base "pinch_of" s_pinch_of 1 ["cells"] (dfSome (fun zs => zs.length < 64) fun zs => pinchD (pinchOf zs)) := by
  refine good_mk (N := ["cells", "known", "row", "column", "beside"]) T.f_pinch_of sc_pinch_of (fun _ _ _ _ _ _ us hl => match us, hl with | [_], _ => rfl) dfSome_len (fun f cdv A outer s H E hr =>
    (dss_cons (ds_setSet 1 rfl hr.u sc_pinch_of.nd T.b_set (de_name 0))
  (dss_cons (ds_for PassesOwn.never rfl (di_seq (de_name 0)) (dg_tup (n := 2) rfl (dgs_cons (dg_name 2 sc_pinch_of.nd) (dgs_cons (dg_name 3 sc_pinch_of.nd) dgs_nil)))
  (dss_one (ds_for PassesOwn.never rfl (di_seq (de_tup (dl_cons (de_op od_sub (de_name 3) de_int) (dl_cons (de_op od_add (de_name 3) de_int) dl_nil)))) (dg_name 4 sc_pinch_of.nd)
  (dss_one (ds_if (dc_bool (dw_and (dc_inSet 1 hr.u (de_tup (dl_cons (de_op od_add (de_name 2) de_int) (dl_cons (de_name 4) dl_nil)))) (dw_and (dc_ninSet 1 hr.u (de_tup (dl_cons (de_name 2) (dl_cons (de_name 4) dl_nil)))) (dw_and1 (dc_ninSet 1 hr.u (de_tup (dl_cons (de_op od_add (de_name 2) de_int) (dl_cons (de_name 3) dl_nil))))))))
  (dss_one (ds_ret (de_tup (dl_cons (de_tup (dl_cons (de_name 2) (dl_cons (de_name 3) dl_nil))) (dl_cons (de_tup (dl_cons (de_op od_add (de_name 2) de_int) (dl_cons (de_name 4) dl_nil))) dl_nil)))))
  dss_nil)))))
  (dss_one (ds_ret de_non))))) ?_
  rintro as Q ⟨d, zs, rfl, hd, hl, h⟩
  have tu := tups_as hd
  simp only [dSeq, dSetSet]
  walk_at "dl"
  refine ⟨zs.map fun z => [z.1, z.2], tu, by simpa using hl, ?_⟩
  clear tu
  have mem : ∀ (a b : Int) (t : Bool), (t = true ↔ [a, b] ∈ zs.map fun z => [z.1, z.2]) → t = decide ((a, b) ∈ zs) := fun a b t ht => by
    have : [a, b] ∈ (zs.map fun z => [z.1, z.2]) ↔ (a, b) ∈ zs := by
      constructor
      · intro m
        obtain ⟨z, hz, e⟩ := List.mem_map.mp m
        injection e with e1 e2
        injection e2 with e2 _
        have : z = (a, b) := Prod.ext e1 e2
        exact this ▸ hz
      · intro m; exact List.mem_map.mpr ⟨_, m, rfl⟩
    rw [this] at ht
    cases t
    · exact (decide_eq_false (fun z => by simpa using ht.mpr z)).symm
    · exact (decide_eq_true (ht.mp rfl)).symm
  refine seq_cells hd (Qd := fun ds => loopD _ _ _ ds _) ?_
  refine pinch_loop (S := fun c => decide (c ∈ zs)) (fun ρ => ∃ a b c, ρ = [Sl.dat d, Sl.sett fun x => x ∈ List.map (fun z => [z.fst, z.snd]) zs, a, b, c]) ⟨_, _, _, rfl⟩ (fun z ρ D' _ ⟨a, b, c, e⟩ h1 h2 => ?_) (fun q hq => ?_) (fun hq ρ' _ => ?_)
  · subst e
    walk_at "dl"
    refine pinch_turn (z := z) (S := fun c => decide (c ∈ zs)) ?_ ?_ h1 ?_ ?_
    · intro b Q hq
      walk_at "dl"
      refine ⟨[z.1 + 1, b], rfl, fun t ht => ?_⟩
      have e1 := mem _ _ _ ht
      subst e1
      cases ea : decide ((z.1 + 1, b) ∈ zs) with
      | false => simpa [ea] using hq
      | true =>
        simp only
        refine ⟨[z.1, b], rfl, fun t ht => ?_⟩
        have e1 := mem _ _ _ ht
        subst e1
        cases eb : decide ((z.1, b) ∈ zs) with
        | true => simpa [ea, eb] using hq
        | false =>
          simp only [if_true, Bool.not_false]
          refine ⟨[z.1 + 1, z.2], rfl, fun t ht => ?_⟩
          have e1 := mem _ _ _ ht
          subst e1
          simpa [ea, eb] using hq
    · intro b Q hq
      walk_at "dl"
      exact hq
    · exact fun hn => h2 hn _ ⟨_, _, _, rfl⟩
    · simp
  · walk_at "dl"
    have e : pinchOf zs = some q := hq
    simp only [e] at h
    exact h
  · walk_at "dl"
    have e : pinchOf zs = none := hq
    simp only [e] at h
    exact h
theorem three {d : PyData} {zs : List Cell} {ta tb tc : DT} {ρ : Rho} {a b c : Cell} {Q : Bool → Prop} (hd : AsCells d zs) (h0 : ρ[0]? = some (.dat d)) (ha : ∀ Q, Q (cellD a) → ta ρ Q) (hb : ∀ Q, Q (cellD b) → tb ρ Q) (hc : ∀ Q, Q (cellD c) → tc ρ Q)
    (q : Q (decide (a ∈ zs) && !decide (b ∈ zs) && !decide (c ∈ zs))) : dAnd (dTr (dOp (gIn false) ta (dName 0))) (dAnd (dTr (dOp (gIn true) tb (dName 0))) (dTr (dOp (gIn true) tc (dName 0)))) ρ Q := by
  simp only [dAnd, dTr, dOp, dName, h0]
  refine ha _ (in_cells hd _ _ _ _ ?_)
  cases ea : decide (a ∈ zs) with
  | false => simpa [ea] using q
  | true =>
    simp only [ea, Bool.false_eq_true, if_false]
    refine hb _ (in_cells hd _ _ _ _ ?_)
    cases eb : decide (b ∈ zs) with
    | true => simpa [ea, eb] using q
    | false =>
      simp only [eb, if_true, Bool.not_false]
      refine hc _ (in_cells hd _ _ _ _ ?_)
      simpa [ea, eb] using q
end
end K25



namespace K25
open PySem PySem.Spec PyProof.Rows L2 DL
open PySem.W (AllAlike Sortable dataLe)
local macro_rules | `(tactic| walk_at "dl") => `(tactic| simp only [dSeq, dRet, dRetO, dRetN, dIsi, dName, dAndV, dOrV, dNotV, dAnd, dOr, dNot, dTr, dIf, dIfS, dNext, dNever, dBreak, dCont, dExpr, dSet, dOwn, dAsg, gSet, gTupD, gsCons, gsNil, dCall, dCallK, dACons, dANil, dAPot, dOp, dCB, dCons, dNil, dTup, dLst, dChain, gLen, gIx, gAbs, gInt, gTwo, gTuple, gList, dSl, gSl, dPart, dNoPart, dNeg, dRevT, startD, argSl, List.map_cons, List.map_nil, List.cons_append, List.nil_append, List.append_nil, List.getElem?_cons_zero, List.getElem?_cons_succ, List.set_cons_zero, List.set_cons_succ, List.length_cons, List.length_nil, List.replicate_succ, List.replicate_zero, dK, gCmpI, gLt, gI, gAdd, gMul, gEq, gIs, gIn, Res.data, oData, oLst, oLc, oList, oListRg, iSeq, iRg1, iRg2, iZip_, iEnumD, wipeD, dYes, dPotIx, dPotSet, dPeek, cPeek, dFor, dDat, dFreeze, dInSet, dSetSet, dSortSet, dPeekT, cPeekT, dTmpNew, dND, dNO, dNNil, dSpoil, oMul, dIxOwn, dInDic, dDicNew, dPar, dPar3, zD, zO, zC, xD, xO, RZ.sl, Res.sl, dDictP, dAppend, dExtend, dAugI, dTupOwn, oCall, dJoin, oSplit, iSig, iEnumSD, gInS, dPopNew, dPotDiv, dCallPot, dRevL, Nat.reduceAdd, Nat.zero_add, Nat.reduceLeDiff, true_and, and_true, Bool.false_eq_true, if_true, if_false])
local macro_rules | `(tactic| walk_at "dv") => `(tactic| simp [isTup, isStr, DL.isInt, DL.isBool, isList, okD_int, okD_bool, okD_none, eqv_int, at0, at1, isNone])
section
variable {P : Program} {w : World} {K : PySem.W.Frag} {mg : Str → Option Value} {base : Heap}
/-! ### a grid, cells taken out, moved -/
def gridL (h w : Nat) : List Cell := (List.range (h * w)).map fun i => (((i : Nat) : Int).fdiv ((w : Nat) : Int), ((i : Nat) : Int).fmod ((w : Nat) : Int))
theorem fd_nat (i w : Nat) : ((i : Nat) : Int).fdiv ((w : Nat) : Int) = ((i / w : Nat) : Int) ∧ ((i : Nat) : Int).fmod ((w : Nat) : Int) = ((i % w : Nat) : Int) := by
  rw [Int.fdiv_eq_ediv_of_nonneg _ (by omega), Int.fmod_eq_emod_of_nonneg _ (by omega)]
  exact ⟨by rw [Int.natCast_ediv], by rw [Int.natCast_emod]⟩
theorem gridM {h w : Nat} {z : Cell} : z ∈ gridL h w ↔ (0 ≤ z.1 ∧ z.1 < (h : Nat)) ∧ 0 ≤ z.2 ∧ z.2 < (w : Nat) := by
  unfold gridL
  rw [List.mem_map]
  constructor
  · rintro ⟨i, hi, rfl⟩
    rw [List.mem_range] at hi
    obtain ⟨e1, e2⟩ := fd_nat i w
    have wp : 0 < w := by rcases Nat.eq_zero_or_pos w with e | e; (rw [e] at hi; omega); exact e
    have h1 : i / w < h := Nat.div_lt_of_lt_mul (by rw [Nat.mul_comm]; exact hi)
    have h2 := Nat.mod_lt i wp
    dsimp only
    rw [e1, e2]
    generalize i / w = q at *
    generalize i % w = m at *
    omega
  · rintro ⟨⟨a, b⟩, c, d⟩
    obtain ⟨r, hr⟩ := Int.eq_ofNat_of_zero_le a
    obtain ⟨s, hs⟩ := Int.eq_ofNat_of_zero_le c
    have hr' : r < h := by omega
    have hs' : s < w := by omega
    refine ⟨r * w + s, List.mem_range.mpr ?_, ?_⟩
    · have : (r + 1) * w ≤ h * w := Nat.mul_le_mul_right w hr'
      rw [Nat.succ_mul] at this
      omega
    · obtain ⟨e1, e2⟩ := fd_nat (r * w + s) w
      have d1 : (r * w + s) / w = r := by rw [Nat.mul_comm, Nat.mul_add_div (by omega), Nat.div_eq_of_lt hs', Nat.add_zero]
      have d2 : (r * w + s) % w = s := by rw [Nat.mul_comm, Nat.mul_add_mod, Nat.mod_eq_of_lt hs']
      rw [d1] at e1
      rw [d2] at e2
      exact Prod.ext (by rw [e1, hr]) (by rw [e2, hs])
theorem grid_pw (h w : Nat) : (gridL h w).Pairwise fun a b => ltB a b = true := by
  unfold gridL
  rw [List.pairwise_map]
  refine List.Pairwise.imp_of_mem ?_ (List.pairwise_lt_range)
  intro i j hi hj lt
  obtain ⟨e1, e2⟩ := fd_nat i w
  obtain ⟨f1, f2⟩ := fd_nat j w
  have d : i / w ≤ j / w := Nat.div_le_div_right (by omega)
  have m1 := Nat.div_add_mod i w
  have m2 := Nat.div_add_mod j w
  simp only [ltB, decide_eq_true_eq]
  rw [e1, e2, f1, f2]
  by_cases e : i / w = j / w
  · right
    rw [e] at m1
    omega
  · left; omega
theorem grid_len (h w : Nat) : (gridL h w).length = h * w := by simp [gridL]
theorem grid_pinch (h w : Nat) : hasPinch (gridL h w) = false := by
  unfold hasPinch
  rw [List.any_eq_false]
  intro z hz
  have b := gridM.mp hz
  unfold hasAt
  by_cases m1 : (z.1 + 1, z.2 + 1) ∈ gridL h w
  · have c1 := gridM.mp m1
    have n1 : (z.1, z.2 + 1) ∈ gridL h w := gridM.mpr ⟨b.1, by dsimp only at c1 ⊢; omega⟩
    by_cases m2 : (z.1 + 1, z.2 - 1) ∈ gridL h w
    · have c2 := gridM.mp m2
      have n2 : (z.1, z.2 - 1) ∈ gridL h w := gridM.mpr ⟨b.1, by dsimp only at c2 ⊢; omega⟩
      simp [n1, n2]
    · simp [n1, m2]
  · by_cases m2 : (z.1 + 1, z.2 - 1) ∈ gridL h w
    · have c2 := gridM.mp m2
      have n2 : (z.1, z.2 - 1) ∈ gridL h w := gridM.mpr ⟨b.1, by dsimp only at c2 ⊢; omega⟩
      simp [m1, n2]
    · simp [m1, m2]
structure Cut (h w : Nat) (zs : List Cell) : Prop where
  sub : zs.Sublist (gridL h w)
  ne : zs ≠ []
  np : hasPinch zs = false
theorem Cut.grid {h w : Nat} (h0 : 0 < h) (w0 : 0 < w) : Cut h w (gridL h w) :=
  ⟨List.Sublist.refl _, fun e => by have := grid_len h w; rw [e] at this; have := Nat.mul_pos h0 w0; simp at *; omega, grid_pinch h w⟩
def shiftL (a b : Int) (zs : List Cell) : List Cell := zs.map fun z => (z.1 + a, z.2 + b)
theorem mem_shift {a b : Int} {zs : List Cell} {z : Cell} : (z.1 + a, z.2 + b) ∈ shiftL a b zs ↔ z ∈ zs := by
  unfold shiftL
  rw [List.mem_map]
  constructor
  · rintro ⟨y, hy, e⟩
    have e1 := congrArg Prod.fst e
    have e2 := congrArg Prod.snd e
    dsimp only at e1 e2
    have : y = z := Prod.ext (by omega) (by omega)
    exact this ▸ hy
  · exact fun h => ⟨z, h, rfl⟩
theorem shift_pinch {a b : Int} (zs : List Cell) : hasPinch (shiftL a b zs) = hasPinch zs := by
  have at_ : ∀ z, hasAt (shiftL a b zs) (z.1 + a, z.2 + b) = hasAt zs z := fun z => by
    have m : ∀ i j : Int, decide ((z.1 + a + i, z.2 + b + j) ∈ shiftL a b zs) = decide ((z.1 + i, z.2 + j) ∈ zs) := fun i j => by
      have := mem_shift (a := a) (b := b) (zs := zs) (z := (z.1 + i, z.2 + j))
      have e : ((z.1 + i) + a, (z.2 + j) + b) = (z.1 + a + i, z.2 + b + j) := Prod.ext (by dsimp only; omega) (by dsimp only; omega)
      dsimp only at this
      rw [e] at this
      exact decide_eq_decide.mpr this
    unfold hasAt
    have m1 := m 1 1
    have m2 := m 0 1
    have m3 := m 1 0
    have m4 := m 1 (-1)
    have m5 := m 0 (-1)
    simp only [Int.add_zero] at m1 m2 m3 m4 m5
    have s1 : ∀ i : Int, i - 1 = i + -1 := fun i => rfl
    simp only [s1, m1, m2, m3, m4, m5]
  unfold hasPinch
  conv => lhs; rw [show shiftL a b zs = zs.map fun z => (z.1 + a, z.2 + b) from rfl, List.any_map]
  refine List.any_congr rfl fun z => ?_
  exact at_ z
theorem Cut.floor {h w : Nat} {zs : List Cell} (c : Cut h w zs) {a b : Int} (ha : 0 ≤ a ∧ a + (h : Nat) ≤ 8) (hb : 0 ≤ b ∧ b + (w : Nat) ≤ 8) (few : h * w ≤ 40) : FloorOk (shiftL a b zs) ∧ (shiftL a b zs).length ≤ h * w := by
  have l : (shiftL a b zs).length ≤ h * w := by
    unfold shiftL
    rw [List.length_map]
    have := c.sub.length_le
    rw [grid_len] at this
    exact this
  refine ⟨⟨pw_rising ?_, fun z hz => ?_, by omega, fun e => c.ne (by unfold shiftL at e; simpa using e), ?_⟩, l⟩
  · unfold shiftL
    rw [List.pairwise_map]
    refine ((grid_pw h w).sublist c.sub).imp fun {x y} q => ?_
    simp only [ltB, decide_eq_true_eq] at q ⊢
    omega
  · unfold shiftL at hz
    obtain ⟨y, hy, rfl⟩ := List.mem_map.mp hz
    have m := gridM.mp (c.sub.subset hy)
    dsimp only
    omega
  · have e := hasPinch_is (shiftL a b zs)
    rw [shift_pinch, c.np] at e
    cases q : pinchOf (shiftL a b zs) with
    | none => rfl
    | some _ => rw [q] at e; cases e
theorem shift_sorted {h w : Nat} {zs : List Cell} (c : Cut h w zs) (a b : Int) : (shiftL a b zs).mergeSort leC = shiftL a b zs := by
  refine sort_rising (pw_rising ?_)
  unfold shiftL
  rw [List.pairwise_map]
  refine ((grid_pw h w).sublist c.sub).imp fun {x y} q => ?_
  simp only [ltB, decide_eq_true_eq] at q ⊢
  omega
/-- a comprehension over cells, row and column named -/
theorem lcD_rc {i j : Nat} {tt : DTT} {te : DT} {ρ : Rho} {Q : List PyData → Prop} (c : Cell → Bool) (f : Cell → PyData) : ∀ (zs : List Cell) (acc : List PyData),
    (∀ z ∈ zs, ∀ Q : Bool → Prop, Q (c z) → tt ((ρ.set i (.dat (.int z.1))).set j (.dat (.int z.2))) Q) → (∀ z ∈ zs, c z = true → ∀ Q : PyData → Prop, Q (f z) → te ((ρ.set i (.dat (.int z.1))).set j (.dat (.int z.2))) Q) →
    acc.length + zs.length ≤ 16777216 → Q (acc ++ (zs.filter c).map f) → lcD (gTupD (gsCons (gSet i) (gsCons (gSet j) gsNil)) 2) tt te ρ (zs.map cellD) acc Q
  | [], acc, _, _, _, h => by simpa [lcD] using h
  | z :: zs, acc, ht, he, hl, h => by
    rw [List.length_cons] at hl
    simp only [List.map_cons, lcD, gTupD, gsCons, gsNil, gSet, cellD, List.length_cons, List.length_nil, true_and]
    refine ht z (List.mem_cons_self ..) _ ?_
    cases e : c z with
    | true =>
      refine he z (List.mem_cons_self ..) e _ ⟨by omega, ?_⟩
      refine lcD_rc c f zs _ (fun y hy => ht y (List.mem_cons_of_mem _ hy)) (fun y hy => he y (List.mem_cons_of_mem _ hy)) (by simp; omega) ?_
      rw [List.filter_cons_of_pos e, List.map_cons] at h
      simpa using h
    | false =>
      refine lcD_rc c f zs _ (fun y hy => ht y (List.mem_cons_of_mem _ hy)) (fun y hy => he y (List.mem_cons_of_mem _ hy)) (by omega) ?_
      rw [List.filter_cons_of_neg (by rw [e]; decide)] at h
      exact h
/-- a drawn floor of at most rows * columns cells -/
def dfFl : DF := fun as Q => ∃ r c : Nat, as = [.p, .d (.int (r : Nat)), .d (.int (c : Nat))] ∧ (1 ≤ r ∧ r ≤ 8) ∧ (1 ≤ c ∧ c ≤ 8) ∧ r * c ≤ 40 ∧ ∀ zs, FloorOk zs → zs.length ≤ r * c → Q (.dat (floorD zs))
theorem dfFl_len : ∀ as Q, dfFl as Q → as.length = 3 := by
  rintro as Q ⟨r, c, rfl, _⟩
  rfl
end
end K25



/-! Most slabs of a lot: tables of partners, ways that go to and fro; plain. -/
namespace K25
open PySem PySem.Spec PyProof.Rows L2 DL
abbrev Tb := List (Cell × Cell)
def look (M : Tb) (z : Cell) : Option Cell := (M.find? fun p => decide (p.1 = z)).map (·.2)
def put (M : Tb) (z c : Cell) : Tb := if (look M z).isSome = true then M.map (fun p => if p.1 = z then (p.1, c) else p) else M ++ [(z, c)]
theorem look_cons (p : Cell × Cell) (M : Tb) (z : Cell) : look (p :: M) z = if p.1 = z then some p.2 else look M z := by
  unfold look
  by_cases e : p.1 = z
  · simp [List.find?_cons, e]
  · simp [List.find?_cons, e]
theorem look_some : ∀ {M : Tb} {z : Cell}, (look M z).isSome = true ↔ z ∈ M.map Prod.fst
  | [], z => by simp [look]
  | p :: M, z => by
    rw [look_cons, List.map_cons, List.mem_cons, ← look_some (M := M)]
    by_cases e : p.1 = z
    · simp [e]
    · rw [if_neg e]
      exact ⟨.inr, fun h => h.resolve_left fun q => e q.symm⟩
theorem look_map (z c w : Cell) : ∀ M : Tb, look (M.map fun p => if p.1 = z then (p.1, c) else p) w = if w = z then (if (look M z).isSome = true then some c else none) else look M w
  | [] => by simp [look]
  | p :: M => by
    have ih := look_map z c w M
    rw [List.map_cons, look_cons, look_cons, ih, look_cons]
    by_cases e : p.1 = z
    · by_cases ew : w = z
      · subst ew; simp [e]
      · have zw : ¬ z = w := fun q => ew q.symm
        simp [e, ew, zw]
    · by_cases ew : w = z
      · subst ew; simp [e]
      · simp [e, ew]
theorem look_app (M : Tb) (z c w : Cell) : look (M ++ [(z, c)]) w = if (look M w).isSome = true then look M w else if z = w then some c else none := by
  induction M with
  | nil => rw [List.nil_append, look_cons]; simp [look]
  | cons p M ih =>
    rw [List.cons_append, look_cons, look_cons, ih]
    by_cases e : p.1 = w
    · simp [e]
    · simp [e]
theorem look_put (M : Tb) (z c w : Cell) : look (put M z c) w = if w = z then some c else look M w := by
  unfold put
  by_cases h : (look M z).isSome = true
  · rw [if_pos h, look_map, if_pos h]
  · rw [if_neg h, look_app]
    by_cases ew : w = z
    · subst ew; simp [h]
    · have : ¬ z = w := fun q => ew q.symm
      simp only [ew, this, if_false]
      cases look M w <;> simp
theorem keys_put (M : Tb) (z c : Cell) : (put M z c).map Prod.fst = if z ∈ M.map Prod.fst then M.map Prod.fst else M.map Prod.fst ++ [z] := by
  unfold put
  by_cases h : (look M z).isSome = true
  · rw [if_pos h, if_pos (look_some.mp h), List.map_map]
    refine List.map_congr_left fun p _ => ?_
    simp only [Function.comp_apply]
    split <;> rfl
  · rw [if_neg h, if_neg fun q => h (look_some.mpr q), List.map_append]; rfl
theorem nodup_put {M : Tb} (h : (M.map Prod.fst).Nodup) (z c : Cell) : ((put M z c).map Prod.fst).Nodup := by
  rw [keys_put]
  split
  · exact h
  · rename_i n
    rw [List.nodup_append]
    exact ⟨h, by simp, fun a ha b hb e => by rw [List.mem_singleton.mp hb] at e; exact n (e ▸ ha)⟩
/-! ### along a way -/
def flip (M : Tb) (t : Tb) : Tb := t.foldl (fun M p => put (put M p.1 p.2) p.2 p.1) M
theorem flip_off : ∀ (t M : Tb) (x : Cell), (∀ p ∈ t, x ≠ p.1 ∧ x ≠ p.2) → look (flip M t) x = look M x
  | [], _, _, _ => rfl
  | p :: t, M, x, h => by
    show look (flip (put (put M p.1 p.2) p.2 p.1) t) x = _
    rw [flip_off t _ x fun q hq => h q (List.mem_cons_of_mem _ hq), look_put, look_put, if_neg (h p (by simp)).2, if_neg (h p (by simp)).1]
theorem flip_on : ∀ (t M : Tb), (t.map Prod.fst).Nodup → (t.map Prod.snd).Nodup → (∀ p ∈ t, ∀ q ∈ t, p.1 ≠ q.2) → ∀ p ∈ t, look (flip M t) p.1 = some p.2 ∧ look (flip M t) p.2 = some p.1
  | [], _, _, _, _, p, hp => nomatch hp
  | q :: t, M, h1, h2, h3, p, hp => by
    rw [List.map_cons, List.nodup_cons] at h1 h2
    have e : flip M (q :: t) = flip (put (put M q.1 q.2) q.2 q.1) t := rfl
    rw [e]
    rcases List.mem_cons.mp hp with rfl | hp
    · have o1 : ∀ x ∈ t, p.1 ≠ x.1 ∧ p.1 ≠ x.2 := fun x hx => ⟨fun z => h1.1 (z ▸ List.mem_map_of_mem hx), h3 p (by simp) x (List.mem_cons_of_mem _ hx)⟩
      have o2 : ∀ x ∈ t, p.2 ≠ x.1 ∧ p.2 ≠ x.2 := fun x hx => ⟨fun z => h3 x (List.mem_cons_of_mem _ hx) p (by simp) z.symm, fun z => h2.1 (z ▸ List.mem_map_of_mem hx)⟩
      rw [flip_off t _ _ o1, flip_off t _ _ o2, look_put, look_put, look_put]
      have n := h3 p (by simp) p (by simp)
      simp [n]
    · exact flip_on t _ h1.2 h2.2 (fun a ha b hb => h3 a (List.mem_cons_of_mem _ ha) b (List.mem_cons_of_mem _ hb)) p hp
theorem flip_nodup : ∀ (t M : Tb), (M.map Prod.fst).Nodup → ((flip M t).map Prod.fst).Nodup
  | [], _, h => h
  | p :: t, M, h => flip_nodup t _ (nodup_put (nodup_put h _ _) _ _)
/-- partners in a lot -/
structure Mt (zs : List Cell) (M : Tb) : Prop where
  nd : (M.map Prod.fst).Nodup
  ok : ∀ z w, look M z = some w → look M w = some z ∧ w ∈ nearL zs z ∧ z ∈ zs
theorem near_symm {zs : List Cell} {z w : Cell} (h : w ∈ nearL zs z) (hz : z ∈ zs) : z ∈ nearL zs w := by
  rw [mem_near] at h ⊢
  exact ⟨beside_symm h.1, hz⟩
theorem dark_eq {z : Cell} : dark z = true ↔ (z.1 + z.2) % 2 = 0 := by
  unfold dark
  rw [decide_eq_true_eq, Int.fmod_eq_emod_of_nonneg _ (by decide)]
theorem near_dark {zs : List Cell} {z w : Cell} (h : w ∈ nearL zs z) : dark w = !dark z := by
  have b := (mem_near.mp h).1
  have e : ∀ x : Cell, dark x = decide ((x.1 + x.2) % 2 = 0) := fun x => by
    cases q : dark x with
    | true => rw [dark_eq.mp q]; rfl
    | false => exact (decide_eq_false fun z => by rw [dark_eq.mpr z] at q; cases q).symm
  rw [e, e]
  simp only [besideL, List.mem_cons, List.not_mem_nil, or_false, Prod.ext_iff] at b
  rcases Int.emod_two_eq (z.1 + z.2) with q | q
  · rw [q, decide_eq_false (by omega)]; rfl
  · rw [q, decide_eq_true (by omega)]; rfl
/-- back from a cell to where the way begins -/
inductive Trail (M B : Tb) (b : Cell) : Cell → Tb → Prop
  | last {o : Cell} : look B o = some b → Trail M B b o [(b, o)]
  | more {o h o' : Cell} {t : Tb} : look B o = some h → h ≠ b → look M h = some o' → Trail M B b o' t → Trail M B b o ((h, o) :: t)
theorem Trail.facts {M B : Tb} {b o : Cell} {t : Tb} (h : Trail M B b o t) : (∀ p ∈ t, look B p.2 = some p.1) ∧ (∀ p ∈ t, p.1 = b ∨ ∃ q ∈ t, look M p.1 = some q.2) ∧ (∀ p ∈ t, p.2 = o ∨ ∃ q ∈ t, look M q.1 = some p.2) ∧ (∃ p ∈ t, p.1 = b) ∧ ∃ p ∈ t, p.2 = o := by
  induction h with
  | @last o e =>
    refine ⟨fun p hp => ?_, fun p hp => ?_, fun p hp => ?_, ⟨_, List.mem_singleton.mpr rfl, rfl⟩, ⟨_, List.mem_singleton.mpr rfl, rfl⟩⟩
    · rw [List.mem_singleton.mp hp]; exact e
    · rw [List.mem_singleton.mp hp]; exact .inl rfl
    · rw [List.mem_singleton.mp hp]; exact .inl rfl
  | @more o h o' t e1 e2 e3 _ ih =>
    obtain ⟨i1, i2, i3, ⟨pb, hpb, epb⟩, ⟨po, hpo, epo⟩⟩ := ih
    refine ⟨fun p hp => ?_, fun p hp => ?_, fun p hp => ?_, ⟨pb, List.mem_cons_of_mem _ hpb, epb⟩, ⟨_, List.mem_cons_self .., rfl⟩⟩
    · rcases List.mem_cons.mp hp with rfl | hp
      · exact e1
      · exact i1 p hp
    · rcases List.mem_cons.mp hp with rfl | hp
      · exact .inr ⟨po, List.mem_cons_of_mem _ hpo, by rw [epo]; exact e3⟩
      · rcases i2 p hp with q | ⟨q, hq, e⟩
        · exact .inl q
        · exact .inr ⟨q, List.mem_cons_of_mem _ hq, e⟩
    · rcases List.mem_cons.mp hp with rfl | hp
      · exact .inl rfl
      · rcases i3 p hp with q | ⟨q, hq, e⟩
        · exact .inr ⟨(h, o), List.mem_cons_self .., by rw [q]; exact e3⟩
        · exact .inr ⟨q, List.mem_cons_of_mem _ hq, e⟩
theorem trail_snd {zs : List Cell} {M B : Tb} {b o : Cell} {t : Tb} (m : Mt zs M) (h : Trail M B b o t) : look M o = none ∨ (∃ x, look M x = some o ∧ x ∉ t.map Prod.fst) → (t.map Prod.fst).Nodup → (t.map Prod.snd).Nodup := by
  induction h with
  | last e => intro _ _; simp
  | @more o h o' t e1 e2 e3 ht ih =>
    intro ho nd
    rw [List.map_cons, List.nodup_cons] at nd ⊢
    refine ⟨fun hm => ?_, ih (.inr ⟨h, e3, nd.1⟩) nd.2⟩
    obtain ⟨p, hp, ep⟩ := List.mem_map.mp hm
    simp only at ep
    obtain ⟨_, _, i3, _, _⟩ := ht.facts
    have key : ∃ x, look M x = some o ∧ x ∈ (h :: t.map Prod.fst) := by
      rcases i3 p hp with q | ⟨q, hq, e⟩
      · rw [ep] at q; rw [q]; exact ⟨h, e3, List.mem_cons_self ..⟩
      · rw [ep] at e; exact ⟨q.1, e, List.mem_cons_of_mem _ (List.mem_map_of_mem hq)⟩
    obtain ⟨x, ex, hx⟩ := key
    rcases ho with ho | ⟨y, ey, hy⟩
    · have := (m.ok _ _ ex).1
      rw [ho] at this; cases this
    · have a := (m.ok _ _ ex).1
      have c := (m.ok _ _ ey).1
      rw [a] at c
      cases c
      rw [List.map_cons] at hy
      exact hy hx
/-- one slab more -/
theorem flip_ok {zs : List Cell} {M B : Tb} {b e : Cell} {t : Tb} (m : Mt zs M) (hb : look M b = none) (he : look M e = none) (db : dark b = true) (de : dark e = false) (nB : ∀ o h, look B o = some h → h ∈ zs ∧ o ∈ nearL zs h ∧ dark h = true) (ht : Trail M B b e t) (nd : (t.map Prod.fst).Nodup) :
    Mt zs (flip M t) ∧ (∀ x, (look (flip M t) x).isSome = true ↔ (look M x).isSome = true ∨ x = b ∨ x = e) ∧ (flip M t).length = M.length + 2 := by
  obtain ⟨f1, f2, f3, ⟨pb, hpb, epb⟩, ⟨pe, hpe, epe⟩⟩ := ht.facts
  have nd2 := trail_snd m ht (.inl he) nd
  have dk : ∀ p ∈ t, dark p.1 = true ∧ dark p.2 = false := fun p hp => by
    obtain ⟨_, h2, h3⟩ := nB _ _ (f1 p hp)
    refine ⟨h3, ?_⟩
    rw [near_dark h2, h3]; rfl
  have dj : ∀ p ∈ t, ∀ q ∈ t, p.1 ≠ q.2 := fun p hp q hq z => by
    have a := (dk p hp).1
    rw [z, (dk q hq).2] at a; cases a
  have on := flip_on t M nd nd2 dj
  have mt : Mt zs (flip M t) := by
    refine ⟨flip_nodup t M m.nd, fun z w hz => ?_⟩
    by_cases hon : ∃ p ∈ t, z = p.1 ∨ z = p.2
    · obtain ⟨p, hp, rfl | rfl⟩ := hon
      · rw [(on p hp).1] at hz
        cases hz
        obtain ⟨h1, h2, _⟩ := nB _ _ (f1 p hp)
        exact ⟨(on p hp).2, h2, h1⟩
      · rw [(on p hp).2] at hz
        cases hz
        obtain ⟨h1, h2, _⟩ := nB _ _ (f1 p hp)
        exact ⟨(on p hp).1, near_symm h2 h1, (mem_near.mp h2).2⟩
    · have off : ∀ p ∈ t, z ≠ p.1 ∧ z ≠ p.2 := fun p hp => ⟨fun q => hon ⟨p, hp, .inl q⟩, fun q => hon ⟨p, hp, .inr q⟩⟩
      rw [flip_off t M z off] at hz
      obtain ⟨h1, h2, h3⟩ := m.ok z w hz
      refine ⟨?_, h2, h3⟩
      rw [flip_off t M w fun p hp => ⟨fun q => ?_, fun q => ?_⟩]
      · exact h1
      · rcases f2 p hp with r | ⟨x, hx, r⟩
        · rw [q, r, hb] at h1; cases h1
        · rw [q, r] at h1; cases h1; exact (off x hx).2 rfl
      · rcases f3 p hp with r | ⟨x, hx, r⟩
        · rw [q, r, he] at h1; cases h1
        · have := (m.ok _ _ r).1
          rw [← q, h1] at this; cases this; exact (off x hx).1 rfl
  have ks : ∀ x, (look (flip M t) x).isSome = true ↔ (look M x).isSome = true ∨ x = b ∨ x = e := fun x => by
    by_cases hon : ∃ p ∈ t, x = p.1 ∨ x = p.2
    · obtain ⟨p, hp, rfl | rfl⟩ := hon
      · refine ⟨fun _ => ?_, fun _ => by rw [(on p hp).1]; rfl⟩
        rcases f2 p hp with r | ⟨y, _, r⟩
        · exact .inr (.inl r)
        · exact .inl (by rw [r]; rfl)
      · refine ⟨fun _ => ?_, fun _ => by rw [(on p hp).2]; rfl⟩
        rcases f3 p hp with r | ⟨y, _, r⟩
        · exact .inr (.inr r)
        · exact .inl (by rw [(m.ok _ _ r).1]; rfl)
    · rw [flip_off t M x fun p hp => ⟨fun q => hon ⟨p, hp, .inl q⟩, fun q => hon ⟨p, hp, .inr q⟩⟩]
      refine ⟨.inl, fun h => h.resolve_right fun h => ?_⟩
      rcases h with rfl | rfl
      · exact hon ⟨pb, hpb, .inl epb.symm⟩
      · exact hon ⟨pe, hpe, .inr epe.symm⟩
  refine ⟨mt, ks, ?_⟩
  have pm : ((flip M t).map Prod.fst).Perm (b :: e :: M.map Prod.fst) := by
    have nb : b ∉ M.map Prod.fst := fun h => by rw [← look_some, hb] at h; cases h
    have ne : e ∉ M.map Prod.fst := fun h => by rw [← look_some, he] at h; cases h
    refine (List.perm_ext_iff_of_nodup mt.nd ?_).mpr fun x => ?_
    · rw [List.nodup_cons, List.nodup_cons, List.mem_cons, not_or]
      exact ⟨⟨fun z => (by rw [z, de] at db; cases db), nb⟩, ne, m.nd⟩
    · rw [← look_some, ks, List.mem_cons, List.mem_cons, ← look_some]
      constructor
      · rintro (h | h | h)
        · exact .inr (.inr h)
        · exact .inl h
        · exact .inr (.inl h)
      · rintro (h | h | h)
        · exact .inr (.inl h)
        · exact .inr (.inr h)
        · exact .inl h
  have := pm.length_eq
  simpa using this
end K25



/-! Going to and fro from a bare cell; plain. -/
namespace K25
open PySem PySem.Spec PyProof.Rows L2 DL
structure Bf (zs : List Cell) (M : Tb) (b : Cell) (B : Tb) (line : List Cell) (c : Nat) : Prop where
  l0 : line[0]? = some b
  nd : line.Nodup
  kn : (B.map Prod.fst).Nodup
  ln : ∀ j h, 1 ≤ j → line[j]? = some h → ∃ o i g, look M h = some o ∧ i < j ∧ line[i]? = some g ∧ look B o = some g
  ky : ∀ o g, look B o = some g → o ∈ nearL zs g ∧ g ∈ line ∧ ∃ h, look M o = some h ∧ h ∈ line
  cl : ∀ i h, i < c → line[i]? = some h → ∀ o ∈ nearL zs h, (look B o).isSome = true
  dk : ∀ h ∈ line, dark h = true ∧ h ∈ zs
  ce : c ≤ line.length
theorem Bf.begin {zs : List Cell} {M : Tb} {b : Cell} (hb : b ∈ zs) (db : dark b = true) : Bf zs M b [] [b] 0 := by
  refine ⟨rfl, by simp, by simp, fun j h h1 e => ?_, fun o g e => ?_, fun i h hi => by omega, fun h hh => ?_, by simp⟩
  · cases j with
    | zero => omega
    | succ j => simp at e
  · cases e
  · rw [List.mem_singleton.mp hh]; exact ⟨db, hb⟩
theorem Bf.len {zs : List Cell} {M B : Tb} {b : Cell} {line : List Cell} {c : Nat} (h : Bf zs M b B line c) : line.length ≤ zs.length ∧ B.length ≤ zs.length := by
  refine ⟨nodup_le _ _ h.nd fun x hx => (h.dk x hx).2, ?_⟩
  have := nodup_le (B.map Prod.fst) zs h.kn fun o ho => by
    obtain ⟨g, hg⟩ := Option.isSome_iff_exists.mp (look_some.mpr ho)
    exact (mem_near.mp (h.ky o g hg).1).2
  simpa using this
theorem Bf.mono {zs : List Cell} {M B : Tb} {b : Cell} {line : List Cell} {c c' : Nat} (h : Bf zs M b B line c) (hc : ∀ i g, i < c' → line[i]? = some g → ∀ o ∈ nearL zs g, (look B o).isSome = true) (ce : c' ≤ line.length) : Bf zs M b B line c' := ⟨h.l0, h.nd, h.kn, h.ln, h.ky, hc, h.dk, ce⟩
/-- a matched cell is come to -/
theorem Bf.step {zs : List Cell} {M B : Tb} {b : Cell} {line : List Cell} {c : Nat} (m : Mt zs M) (mb : look M b = none) (h : Bf zs M b B line c) {here other far : Cell} (hh : here ∈ line) (ho : other ∈ nearL zs here) (nb : look B other = none) (hf : look M other = some far) :
    Bf zs M b (put B other here) (line ++ [far]) c := by
  obtain ⟨m1, m2, m3⟩ := m.ok _ _ hf
  have keep : ∀ {o g : Cell}, look B o = some g → look (put B other here) o = some g := fun {o g} e => by
    rw [look_put, if_neg (fun z => by rw [z, nb] at e; cases e)]; exact e
  have old : ∀ {i : Nat} {g : Cell}, line[i]? = some g → (line ++ [far])[i]? = some g := fun {i g} e => by
    rw [List.getElem?_append_left (List.getElem?_eq_some_iff.mp e).1]; exact e
  have nf : far ∉ line := fun hm => by
    obtain ⟨j, hj⟩ := List.getElem?_of_mem hm
    cases j with
    | zero =>
      rw [h.l0] at hj
      cases hj
      rw [mb] at m1; cases m1
    | succ j =>
      obtain ⟨o, i, g, e1, _, _, e2⟩ := h.ln _ _ (by omega) hj
      rw [m1] at e1
      cases e1
      rw [nb] at e2; cases e2
  refine ⟨old h.l0, ?_, nodup_put h.kn _ _, fun j g h1 e => ?_, fun o g e => ?_, fun i g hi e o hno => ?_, fun x hx => ?_, by rw [List.length_append]; have := h.ce; omega⟩
  · rw [List.nodup_append]
    exact ⟨h.nd, by simp, fun a ha b hb e => by rw [List.mem_singleton.mp hb] at e; exact nf (e ▸ ha)⟩
  · by_cases hj : j < line.length
    · rw [List.getElem?_append_left hj] at e
      obtain ⟨o, i, g', e1, e2, e3, e4⟩ := h.ln j g h1 e
      exact ⟨o, i, g', e1, e2, old e3, keep e4⟩
    · rw [List.getElem?_append_right (by omega)] at e
      have ej : j - line.length = 0 := by
        by_cases z : j - line.length = 0
        · exact z
        · rw [List.getElem?_eq_none (by simp; omega)] at e; cases e
      rw [ej] at e
      cases e
      obtain ⟨i, hi⟩ := List.getElem?_of_mem hh
      exact ⟨other, i, here, m1, by have := (List.getElem?_eq_some_iff.mp hi).1; omega, old hi, by rw [look_put, if_pos rfl]⟩
  · rw [look_put] at e
    split at e
    · rename_i eo
      subst eo
      cases e
      exact ⟨ho, by simp [hh], far, hf, by simp⟩
    · obtain ⟨a1, a2, x, a3, a4⟩ := h.ky o g e
      exact ⟨a1, by simp [a2], x, a3, by simp [a4]⟩
  · have hj : i < line.length := Nat.lt_of_lt_of_le hi h.ce
    rw [List.getElem?_append_left hj] at e
    obtain ⟨y, hy⟩ := Option.isSome_iff_exists.mp (h.cl i g hi e o hno)
    rw [keep hy]; rfl
  · rcases List.mem_append.mp hx with hx | hx
    · exact h.dk x hx
    · rw [List.mem_singleton.mp hx]
      refine ⟨?_, (mem_near.mp m2).2⟩
      rw [near_dark m2, near_dark ho, (h.dk here hh).1]; rfl
/-- the way back from any cell that was come to -/
theorem Bf.trail {zs : List Cell} {M B B' : Tb} {b : Cell} {line : List Cell} {c : Nat} (mb : look M b = none) (h : Bf zs M b B line c) (hB : ∀ o g, look B o = some g → look B' o = some g) : ∀ (i : Nat) (o g : Cell), line[i]? = some g → look B' o = some g →
    ∃ t, Trail M B' b o t ∧ (t.map Prod.fst).Nodup ∧ ∀ p ∈ t, ∃ j, j ≤ i ∧ line[j]? = some p.1 := by
  intro i
  induction i using Nat.strongRecOn with
  | ind i ih =>
    intro o g hi ho
    cases i with
    | zero =>
      rw [h.l0] at hi
      cases hi
      exact ⟨_, .last ho, by simp, fun p hp => ⟨0, Nat.le_refl _, by rw [List.mem_singleton.mp hp]; exact h.l0⟩⟩
    | succ i =>
      obtain ⟨o', k, g', e1, e2, e3, e4⟩ := h.ln (i + 1) g (by omega) hi
      obtain ⟨t, ht, nd, hp⟩ := ih k e2 o' g' e3 (hB _ _ e4)
      refine ⟨(g, o) :: t, .more ho (fun z => ?_) e1 ht, ?_, fun p hp' => ?_⟩
      · rw [z, mb] at e1; cases e1
      · rw [List.map_cons, List.nodup_cons]
        refine ⟨fun hm => ?_, nd⟩
        obtain ⟨p, hp', ep⟩ := List.mem_map.mp hm
        obtain ⟨j, hj, ej⟩ := hp p hp'
        simp only at ep
        rw [ep] at ej
        have l1 := (List.getElem?_eq_some_iff.mp ej).1
        have := (List.getElem?_inj l1 h.nd).mp (ej.trans hi.symm)
        omega
      · rcases List.mem_cons.mp hp' with rfl | hp'
        · exact ⟨i + 1, Nat.le_refl _, hi⟩
        · obtain ⟨j, hj, ej⟩ := hp p hp'
          exact ⟨j, by omega, ej⟩
/-- a bare cell is come to -/
theorem Bf.found {zs : List Cell} {M B : Tb} {b : Cell} {line : List Cell} {c : Nat} (mb : look M b = none) (h : Bf zs M b B line c) {here e : Cell} (hh : here ∈ line) (ho : e ∈ nearL zs here) (me : look M e = none) :
    (∃ t, Trail M (put B e here) b e t ∧ (t.map Prod.fst).Nodup) ∧ (∀ o g, look (put B e here) o = some g → g ∈ zs ∧ o ∈ nearL zs g ∧ dark g = true) ∧ dark e = false := by
  have hB : ∀ o g, look B o = some g → look (put B e here) o = some g := fun o g q => by
    rw [look_put, if_neg]
    · exact q
    · intro z
      obtain ⟨_, _, x, e1, _⟩ := h.ky o g q
      rw [z, me] at e1; cases e1
  obtain ⟨i, hi⟩ := List.getElem?_of_mem hh
  obtain ⟨t, ht, nd, _⟩ := h.trail mb hB i e here hi (by rw [look_put, if_pos rfl])
  refine ⟨⟨t, ht, nd⟩, fun o g q => ?_, by rw [near_dark ho, (h.dk here hh).1]; rfl⟩
  rw [look_put] at q
  split at q
  · rename_i z
    cases q
    exact ⟨(h.dk here hh).2, z ▸ ho, (h.dk here hh).1⟩
  · obtain ⟨a1, a2, _⟩ := h.ky o g q
    exact ⟨(h.dk g a2).2, a1, (h.dk g a2).1⟩
/-- all cells in pairs -/
def Pm (zs : List Cell) (f : Cell → Cell) : Prop := ∀ z ∈ zs, f z ∈ nearL zs z ∧ f (f z) = z
theorem nodup_map {f : Cell → Cell} : ∀ {l : List Cell}, l.Nodup → (∀ x ∈ l, ∀ y ∈ l, f x = f y → x = y) → (l.map f).Nodup
  | [], _, _ => by simp
  | x :: l, h, g => by
    rw [List.nodup_cons] at h
    rw [List.map_cons, List.nodup_cons]
    refine ⟨fun hm => ?_, nodup_map h.2 fun a ha b hb => g a (List.mem_cons_of_mem _ ha) b (List.mem_cons_of_mem _ hb)⟩
    obtain ⟨y, hy, e⟩ := List.mem_map.mp hm
    have := g y (List.mem_cons_of_mem _ hy) x (by simp) e
    rw [this] at hy
    exact h.1 hy
/-- no bare cell is come to: not all cells can go in pairs -/
theorem Bf.no_pm {zs : List Cell} {M B : Tb} {b : Cell} {line : List Cell} (m : Mt zs M) (mb : look M b = none) (h : Bf zs M b B line line.length) (f : Cell → Cell) (pf : Pm zs f) : False := by
  have a1 := nodup_le (line.map f) (B.map Prod.fst) (nodup_map h.nd fun x hx y hy e => by
    have p := (pf x (h.dk x hx).2).2
    rw [e, (pf y (h.dk y hy).2).2] at p
    exact p.symm) fun o ho => by
      obtain ⟨g, hg, rfl⟩ := List.mem_map.mp ho
      obtain ⟨i, hi⟩ := List.getElem?_of_mem hg
      exact look_some.mp (h.cl i g (List.getElem?_eq_some_iff.mp hi).1 hi _ (pf g (h.dk g hg).2).1)
  have mat : ∀ o ∈ B.map Prod.fst, ∃ x, look M o = some x ∧ x ∈ line := fun o ho => by
    obtain ⟨g, hg⟩ := Option.isSome_iff_exists.mp (look_some.mpr ho)
    obtain ⟨_, _, x, e1, e2⟩ := h.ky o g hg
    exact ⟨x, e1, e2⟩
  have a2 := nodup_le ((B.map Prod.fst).map fun o => (look M o).getD o) (line.erase b) (nodup_map h.kn fun x hx y hy e => by
    obtain ⟨u, eu, _⟩ := mat x hx
    obtain ⟨v, ev, _⟩ := mat y hy
    simp only [eu, ev, Option.getD_some] at e
    have p := (m.ok _ _ eu).1
    have q := (m.ok _ _ ev).1
    rw [e, q] at p
    cases p; rfl) fun o ho => by
      obtain ⟨g, hg, rfl⟩ := List.mem_map.mp ho
      obtain ⟨u, eu, hu⟩ := mat g hg
      simp only [eu, Option.getD_some]
      rw [List.mem_erase_of_ne]
      · exact hu
      · intro z
        have p := (m.ok _ _ eu).1
        rw [z, mb] at p; cases p
  have hb : b ∈ line := List.mem_of_getElem? h.l0
  rw [List.length_erase_of_mem hb] at a2
  have := List.length_pos_of_mem hb
  simp only [List.length_map] at a1 a2
  omega
end K25



/-! Most slabs of a lot: the walk. -/
namespace K25
open PySem PySem.Spec PyProof.Rows L2 DL
open PySem.W (AllAlike Sortable dataLe)
local macro_rules | `(tactic| walk_at "dl") => `(tactic| simp only [dSeq, dRet, dRetO, dRetN, dIsi, dName, dAndV, dOrV, dNotV, dAnd, dOr, dNot, dTr, dIf, dIfS, dNext, dNever, dBreak, dCont, dExpr, dSet, dOwn, dAsg, gSet, gTupD, gsCons, gsNil, dCall, dCallK, dACons, dANil, dAPot, dOp, dCB, dCons, dNil, dTup, dLst, dChain, gLen, gIx, gAbs, gInt, gTwo, gTuple, gList, dSl, gSl, dPart, dNoPart, dNeg, dRevT, startD, argSl, List.map_cons, List.map_nil, List.cons_append, List.nil_append, List.append_nil, List.getElem?_cons_zero, List.getElem?_cons_succ, List.set_cons_zero, List.set_cons_succ, List.length_cons, List.length_nil, List.replicate_succ, List.replicate_zero, dK, gCmpI, gLt, gI, gAdd, gMul, gEq, gIs, gIn, Res.data, oData, oLst, oLc, oList, oListRg, iSeq, iRg1, iRg2, iZip_, iEnumD, wipeD, dYes, dPotIx, dPotSet, dPeek, cPeek, dFor, dDat, dFreeze, dInSet, dSetSet, dSortSet, dPeekT, cPeekT, dTmpNew, dND, dNO, dNNil, dSpoil, oMul, dIxOwn, dInDic, dDicNew, dPar, dPar3, zD, zO, zC, xD, xO, RZ.sl, Res.sl, dDictP, dAppend, dExtend, dAugI, dTupOwn, oCall, dPopTo, oSorted, dSpoilAll, dGetDic, dIxDic, dInRdic, dRestDic, dPut2, dRNil, dRCons, dRDic, dCallR, dCallM, gLenD, gIsB, startR, startM, ar2Sl, dPar2z, dLenSet, gInDD, dForPop, dExtA, dSeqQ, gLtA, gSortA, gSort1, dJoin, oSplit, iSig, iEnumSD, gInS, dPopNew, dPotDiv, dCallPot, dRevL, Nat.reduceAdd, Nat.zero_add, Nat.reduceLeDiff, true_and, and_true, Bool.false_eq_true, if_true, if_false])
local macro_rules | `(tactic| walk_at "dv") => `(tactic| simp [isTup, isStr, DL.isInt, DL.isBool, isList, okD_int, okD_bool, okD_none, eqv_int, at0, at1, isNone])
/-- no way leads on from a bare cell -/
def Stuck (zs : List Cell) (M : Tb) (b : Cell) : Prop := ∃ L : List Cell, L.Nodup ∧ b ∈ L ∧ (∀ h ∈ L, h ∈ zs ∧ dark h = true) ∧ ∀ h ∈ L, ∀ o ∈ nearL zs h, ∃ h' ∈ L, look M o = some h'
theorem Bf.stuck {zs : List Cell} {M B : Tb} {b : Cell} {line : List Cell} (h : Bf zs M b B line line.length) : Stuck zs M b := by
  refine ⟨line, h.nd, List.mem_of_getElem? h.l0, fun x hx => ⟨(h.dk x hx).2, (h.dk x hx).1⟩, fun x hx o ho => ?_⟩
  obtain ⟨i, hi⟩ := List.getElem?_of_mem hx
  obtain ⟨g, hg⟩ := Option.isSome_iff_exists.mp (h.cl i x (List.getElem?_eq_some_iff.mp hi).1 hi o ho)
  obtain ⟨_, _, y, e1, e2⟩ := h.ky o g hg
  exact ⟨y, e2, e1⟩
theorem Stuck.no_pm {zs : List Cell} {M : Tb} {b : Cell} (m : Mt zs M) (mb : look M b = none) (h : Stuck zs M b) : ∀ f, ¬ Pm zs f := by
  rintro f pf
  obtain ⟨L, nd, hb, hz, cl⟩ := h
  have get : ∀ x ∈ L, ∃ y, look M (f x) = some y ∧ y ∈ L := fun x hx => by
    obtain ⟨y, hy, e⟩ := cl x hx (f x) (pf x (hz x hx).1).1
    exact ⟨y, e, hy⟩
  have a := nodup_le (L.map fun x => (look M (f x)).getD x) (L.erase b) (nodup_map nd fun x hx y hy e => by
    obtain ⟨u, eu, _⟩ := get x hx
    obtain ⟨v, ev, _⟩ := get y hy
    simp only [eu, ev, Option.getD_some] at e
    subst e
    have p := (m.ok _ _ eu).1
    rw [(m.ok _ _ ev).1] at p
    have q := Option.some.inj p
    have r := (pf x (hz x hx).1).2
    rw [← q, (pf y (hz y hy).1).2] at r
    exact r.symm) fun o ho => by
      obtain ⟨x, hx, rfl⟩ := List.mem_map.mp ho
      obtain ⟨u, eu, hu⟩ := get x hx
      simp only [eu, Option.getD_some]
      rw [List.mem_erase_of_ne]
      · exact hu
      · intro z
        have p := (m.ok _ _ eu).1
        rw [z, mb] at p; cases p
  rw [List.length_erase_of_mem hb] at a
  have := List.length_pos_of_mem hb
  simp only [List.length_map] at a
  omega
/-- what is stuck stays so -/
theorem Stuck.flip {zs : List Cell} {M B : Tb} {b b' e : Cell} {t : Tb} (m : Mt zs M) (h : Stuck zs M b) (he : look M e = none) (nB : ∀ o h, look B o = some h → h ∈ zs ∧ o ∈ nearL zs h ∧ dark h = true) (ht : Trail M B b' e t) : Stuck zs (flip M t) b := by
  obtain ⟨L, nd, hb, hz, cl⟩ := h
  obtain ⟨f1, f2, f3, _, _⟩ := ht.facts
  have out : ∀ p ∈ t, p.1 ∉ L := by
    have gen : ∀ {o : Cell} {t : Tb}, Trail M B b' o t → (∀ y, look M o = some y → y ∉ L) → ∀ p ∈ t, p.1 ∉ L := by
      intro o t ht
      induction ht with
      | @last o e1 =>
        intro ho p hp hL
        rw [List.mem_singleton.mp hp] at hL
        obtain ⟨y, hy, q⟩ := cl _ hL _ (nB _ _ e1).2.1
        exact ho y q hy
      | @more o h o' t e1 e2 e3 _ ih =>
        intro ho p hp
        have hh : h ∉ L := fun hL => by
          obtain ⟨y, hy, q⟩ := cl _ hL _ (nB _ _ e1).2.1
          exact ho y q hy
        rcases List.mem_cons.mp hp with rfl | hp
        · exact hh
        · refine ih (fun y hy => ?_) p hp
          rw [(m.ok _ _ e3).1] at hy
          cases hy
          exact hh
    exact gen ht fun y hy => by rw [he] at hy; cases hy
  refine ⟨L, nd, hb, hz, fun x hx o ho => ?_⟩
  obtain ⟨y, hy, ey⟩ := cl x hx o ho
  refine ⟨y, hy, ?_⟩
  rw [flip_off t M o fun p hp => ⟨fun q => ?_, fun q => ?_⟩]
  · exact ey
  · have d := near_dark ho
    rw [(hz x hx).2, q, (nB _ _ (f1 p hp)).2.2] at d
    cases d
  · rcases f3 p hp with r | ⟨w, hw, r⟩
    · rw [q, r, he] at ey; cases ey
    · rw [q, (m.ok _ _ r).1] at ey
      cases ey
      exact out w hw hy
section
variable {P : Program} {w : World} {K : PySem.W.Frag} {mg : Str → Option Value} {base : Heap}
theorem dSeq_intro {t u : DS} {D : DEnds} {ρ : Rho} (h : ∀ N : Rho → Prop, (∀ ρ', u D ρ' → N ρ') → t { D with nx := N } ρ) : dSeq t u D ρ := h (u D) fun _ z => z
theorem dark_is (z : Cell) : decide ((z.1 + z.2).fmod 2 = 0) = dark z := rfl
def mKV (M : Tb) : List (List Int × PyData) := M.map fun p => ([p.1.1, p.1.2], cellD p.2)
theorem key_eq {z w : Cell} : [z.1, z.2] = [w.1, w.2] ↔ z = w := ⟨fun h => key_inj h, fun h => by rw [h]⟩
theorem look_mKV (z : Cell) : ∀ M : Tb, lookT (mKV M) [z.1, z.2] = (look M z).map cellD
  | [] => rfl
  | p :: M => by
    have ih := look_mKV z M
    unfold mKV at ih ⊢
    rw [List.map_cons, lookT_cons, look_cons, ih]
    by_cases e : p.1 = z
    · rw [if_pos (key_eq.mpr e), if_pos e]; rfl
    · rw [if_neg (fun q => e (key_eq.mp q)), if_neg e]
theorem put_mKV (M : Tb) (z c : Cell) : putD (mKV M) [z.1, z.2] (cellD c) = mKV (put M z c) := by
  unfold putD put
  rw [look_mKV, Option.isSome_map]
  split
  · unfold mKV
    rw [List.map_map, List.map_map]
    refine List.map_congr_left fun p _ => ?_
    simp only [Function.comp_apply]
    by_cases e : p.1 = z
    · rw [if_pos (key_eq.mpr e), if_pos e]
    · rw [if_neg (fun q => e (key_eq.mp q)), if_neg e]
  · unfold mKV
    rw [List.map_append]; rfl
theorem len_mKV (M : Tb) : (mKV M).length = M.length := by unfold mKV; rw [List.length_map]
theorem tupI_cell (z : Cell) : cellD z = tupI [z.1, z.2] := rfl
def trueKV (zs : List Cell) : List (List Int × PyData) := zs.map fun z => ([z.1, z.2], .bool true)
theorem look_true (y : Cell) : ∀ zs : List Cell, (lookT (trueKV zs) [y.1, y.2]).isSome = decide (y ∈ zs)
  | [] => rfl
  | z :: zs => by
    have ih := look_true y zs
    unfold trueKV at ih ⊢
    rw [List.map_cons, lookT_cons]
    by_cases e : z = y
    · subst e; rw [if_pos rfl]; simp
    · rw [if_neg (fun q => e (key_eq.mp q)), ih]
      have e' : ¬ y = z := fun q => e q.symm
      simp [e']
theorem put_true {zs : List Cell} {y : Cell} (h : y ∉ zs) : putD (trueKV zs) [y.1, y.2] (.bool true) = trueKV (zs ++ [y]) := by
  unfold putD
  rw [look_true, decide_eq_false h]
  simp [trueKV]
def Du (s : Sl) : Prop := s = .emp ∨ ∃ d, s = .dat d
theorem G_beside (T : Txt K mg) : Good P w K mg base "beside" s_beside 1 ["cell"] dfBeside := by
  refine good_mk (N := ["cell", "row", "column"]) T.f_beside sc_beside (fun _ _ _ _ _ _ us hl => match us, hl with | [_], _ => rfl) dfBeside_len (fun f cdv A outer s H E hr =>
    (dss_cons (ds_asg (de_name 0) (dg_tup (n := 2) rfl (dgs_cons (dg_name 1 sc_beside.nd) (dgs_cons (dg_name 2 sc_beside.nd) dgs_nil))))
  (dss_one (ds_retO (do_lst (dl_cons (de_tup (dl_cons (de_op od_sub (de_name 1) de_int) (dl_cons (de_name 2) dl_nil))) (dl_cons (de_tup (dl_cons (de_name 1) (dl_cons (de_op od_sub (de_name 2) de_int) dl_nil))) (dl_cons (de_tup (dl_cons (de_name 1) (dl_cons (de_op od_add (de_name 2) de_int) dl_nil))) (dl_cons (de_tup (dl_cons (de_op od_add (de_name 1) de_int) (dl_cons (de_name 2) dl_nil))) dl_nil))))))))) ?_
  rintro as Q ⟨z, rfl, h⟩
  walk_at "dl"
  exact h
theorem G_near_in (T : Txt K mg) : Good P w K mg base "near_in" s_near_in 2 ["lot"] dfNear := by
  have G_beside := G_beside (P := P) (w := w) (base := base) T
  refine good_mk (N := ["lot", "found", "cell", "one"]) T.f_near_in sc_near_in (fun _ _ _ _ _ _ us hl => match us, hl with | [_], _ => rfl) dfNear_len (fun f cdv A outer s H E hr =>
    (dss_cons (ds_dicNew 1 sc_near_in.nd)
  (dss_cons (ds_for PassesOwn.never rfl (di_seq (de_name 0)) (dg_name 2 sc_near_in.nd)
  (dss_one (ds_dicPut 1 hr.u1 (de_name 2) de_bl)))
  (dss_one (ds_ret (de_dictP rfl hr.u2 T.b_dict (DO.de (do_lc (own := [("cell", 2)]) rfl sc_near_in.nd (di_seq (de_name 0)) (blkOk_by (own := [("cell", 2)]) (by rfl)) (fun _ _ _ _ _ => (dg_name 2 sc_near_in.nd)) (fun _ _ _ _ _ => dts_nil) (fun _ _ _ _ _ => (de_tup (dl_cons (de_name 2) (dl_cons (DO.de (do_lc (own := [("one", 3)]) rfl sc_near_in.nd (di_seq (DO.de (do_callG G_beside (hr.mono (by decide)) (da_cons (de_name 2) da_nil)))) (blkOk_by (own := [("one", 3)]) (by rfl)) (fun _ _ _ _ _ => (dg_name 3 sc_near_in.nd)) (fun _ _ _ _ _ => (dts_one (dc_inDic 1 hr.u1 (de_name 3)))) (fun _ _ _ _ _ => (de_name 3)) (by decide))) dl_nil)))) (by decide))))))))) ?_
  rintro as Q ⟨d, zs, rfl, ha, ⟨nd, hl⟩, h⟩
  walk_at "dl"
  rcases ha with rfl | rfl
  all_goals
    simp only []
    refine loopD_pre cellD (fun pre ρ => ∃ s, Du s ∧ ρ = [.dat _, .dic (trueKV pre), s, .emp]) zs _ ⟨.emp, .inl rfl, rfl⟩ ?_ ?_
    · rintro pre x post ρ N exs ⟨s, hs, rfl⟩ hN
      have nx : x ∉ pre := by
        rw [exs, List.nodup_append] at nd
        exact fun q => nd.2.2 x q x (by simp) rfl
      have lx : pre.length < 1000 := by
        have := congrArg List.length exs
        simp at this
        omega
      walk_at "dl"
      unfold dDicPut
      walk_at "dl"
      refine ⟨by rcases hs with rfl | ⟨_, rfl⟩ <;> rfl, by simpa [trueKV] using lx, [x.1, x.2], rfl, hN _ ⟨.dat (cellD x), .inr ⟨_, rfl⟩, by rw [put_true nx]⟩⟩
    · rintro ρ ⟨s, hs, rfl⟩
      walk_at "dl"
      refine lcD_m cellD (fun z => pairP ([z.1, z.2], .list ((nearL zs z).map cellD))) zs (fun z hz Q hq => ?_) (by omega) ⟨nearKV zs, by simp [nearKV], ?_, h⟩
      · walk_at "dl"
        refine ⟨z, rfl, ?_⟩
        walk_at "dl"
        refine lcD_fm (enc := cellD) (c := fun y => decide (y ∈ zs)) (f := cellD) (besideL z) [] (fun y hy Q hq => ?_) (fun y hy _ Q hq => ?_) (by simp [besideL]) ?_
        · walk_at "dl"
          refine ⟨[y.1, y.2], rfl, ?_⟩
          rw [look_true]
          exact hq
        · walk_at "dl"
          exact hq
        · exact hq
      · simp only [nearKV, List.map_map]
        exact keys_nodup nd
def dfWay : DFR := fun as Q => ∃ zs M b, as = [.d (dictD (nearKV zs)), .c (mKV M), .d (cellD b)] ∧ zs.length ≤ 40 ∧ Mt zs M ∧ look M b = none ∧ b ∈ zs ∧ dark b = true ∧
  (∀ B e t, Trail M B b e t → (t.map Prod.fst).Nodup → (∀ o g, look B o = some g → g ∈ zs ∧ o ∈ nearL zs g ∧ dark g = true) → look M e = none → dark e = false → Q (.dat (.tuple [dictD (mKV B), cellD e]))) ∧ (Stuck zs M b → ∀ B, Q (.dat (.tuple [dictD (mKV B), .none])))
theorem GR_way_from (T : Txt K mg) : GoodR P w K mg base "way_from" s_way_from 1 ["near", "partner", "begin"] dfWay := by
  refine goodR_mk (N := ["near", "partner", "begin", "back", "line", "turn", "here", "other"]) T.f_way_from sc_way_from (fun _ _ _ _ _ _ us hl => match us, hl with | [_, _, _], _ => rfl) (by rintro as Q ⟨zs, M, b, rfl, _⟩; rfl) (fun f cdv A outer s H E hr =>
    (dss_cons (ds_par3 3 4 5 rfl sc_way_from.nd dz_c (dz_o (do_lst (dl_cons (de_name 2) dl_nil))) (dz_d de_int))
  (dss_cons (ds_while PassesOwn.never (dc_peek 4 (dc_cmp (od_lt hr.u0) (de_name 5) (de_callB (cd_len) T.b_len (dl_cons (de_name 4) dl_nil)) (nomark _)))
  (dss_cons (ds_set 6 sc_way_from.nd (de_ixOwn 4 (de_name 5)))
  (dss_cons (ds_augI 5 ip_add sc_way_from.nd de_int)
  (dss_one (ds_for PassesOwn.never rfl (di_seq (de_dget hr.u1 (de_name 0) (de_name 6))) (dg_name 7 sc_way_from.nd)
  (dss_one (ds_if (dc_ninDic 3 hr.u1 (de_name 7))
  (dss_cons (ds_dicPut 3 hr.u1 (de_name 7) (de_name 6))
  (dss_cons (ds_if (dc_ninRdic 1 hr.u1 (de_name 7))
  (dss_one (ds_restDic 3 (ds_ret (de_tup (dl_cons (de_name 3) (dl_cons (de_name 7) dl_nil))))))
  dss_nil)
  (dss_one (ds_append 4 (de_ixDic 1 hr.u1 (de_name 7))))))
  dss_nil)))))))
  (dss_one (ds_restDic 3 (ds_ret (de_tup (dl_cons (de_name 3) (dl_cons de_non dl_nil))))))))) ?_
  rintro as Q ⟨zs, M, b, rfl, hl, mt, mb, hb, db, hq, hn⟩
  walk_at "dl"
  have hb0 : b ∈ zs := hb
  unfold dWhile
  refine ⟨fun m ρ => ∃ (B : Tb) (line : List Cell) (k : Nat) (s6 s7 : Sl), Bf zs M b B line k ∧ m + k = zs.length ∧ Du s6 ∧ Du s7 ∧ ρ = [.dat (dictD (nearKV zs)), .rdic (mKV M), .dat (cellD b), .dic (mKV B), .own (line.map cellD), .dat (.int (k : Int)), s6, s7], ⟨zs.length, [], [b], 0, .emp, .emp, Bf.begin hb db, rfl, .inl rfl, .inl rfl, rfl⟩, ?_⟩
  rintro m ρ ⟨B, line, k, s6, s7, bf, hm, h6, h7, rfl⟩
  have nt : noTmp [.dat (dictD (nearKV zs)), .rdic (mKV M), .dat (cellD b), .dic (mKV B), .own (line.map cellD), .dat (.int (k : Int)), s6, s7] = true := by
    rcases h6 with rfl | ⟨_, rfl⟩ <;> rcases h7 with rfl | ⟨_, rfl⟩ <;> rfl
  obtain ⟨ll, lb⟩ := bf.len
  walk_at "dl"
  refine ⟨nt, ?_⟩
  rw [List.length_map]
  by_cases hk : k < line.length
  · rw [decide_eq_true (by omega)]
    obtain ⟨here, eh⟩ : ∃ here, line[k]? = some here := ⟨_, List.getElem?_eq_getElem hk⟩
    have hmem : here ∈ line := List.mem_of_getElem? eh
    have hz := (bf.dk here hmem).2
    have ea : atI (line.map cellD) (k : Int) = some (cellD here) := by
      refine atI_nat ?_
      rw [List.getElem?_map, eh]; rfl
    walk_at "dl"
    refine ⟨cellD here, ea, ?_⟩
    refine ⟨nearKV zs, [here.1, here.2], .list ((nearL zs here).map cellD), rfl, rfl, look_near zs zs here hz, ?_⟩
    simp only []
    refine loopD_pre cellD (fun pre ρ => ∃ (B' : Tb) (line' : List Cell) (s7 : Sl), Bf zs M b B' line' k ∧ line'[k]? = some here ∧ (∀ o ∈ pre, (look B' o).isSome = true) ∧ Du s7 ∧ ρ = [.dat (dictD (nearKV zs)), .rdic (mKV M), .dat (cellD b), .dic (mKV B'), .own (line'.map cellD), .dat (.int ((k : Int) + 1)), .dat (cellD here), s7]) (nearL zs here) _ ⟨B, line, s7, bf, eh, (fun o h => nomatch h), h7, rfl⟩ ?_ ?_
    · rintro pre x post ρ N exs ⟨B', line', s7', bf', eh', hp, h7', rfl⟩ hN
      have hx : x ∈ nearL zs here := by rw [exs]; simp
      have hmem' : here ∈ line' := List.mem_of_getElem? eh'
      obtain ⟨ll', lb'⟩ := bf'.len
      walk_at "dl"
      refine ⟨[x.1, x.2], rfl, ?_⟩
      rw [look_mKV, Option.isSome_map]
      cases eB : look B' x with
      | some g =>
        simp only [Option.isSome_some, Bool.not_true]
        refine hN _ ⟨B', line', _, bf', eh', fun o ho => ?_, .inr ⟨_, rfl⟩, rfl⟩
        rcases List.mem_append.mp ho with ho | ho
        · exact hp o ho
        · rw [List.mem_singleton.mp ho, eB]; rfl
      | none =>
        simp only [Option.isSome_none, Bool.not_false]
        unfold dDicPut
        walk_at "dl"
        refine ⟨rfl, by rw [len_mKV]; omega, [x.1, x.2], rfl, ?_⟩
        refine ⟨mKV M, rfl, [x.1, x.2], rfl, ?_⟩
        rw [look_mKV, Option.isSome_map, put_mKV]
        cases eM : look M x with
        | none =>
          simp only [Option.isSome_none, Bool.not_false]
          obtain ⟨⟨t, ht, nd⟩, nB, de⟩ := bf'.found mb hmem' hx eM
          exact ⟨rfl, hq _ _ t ht nd nB eM de⟩
        | some far =>
          simp only [Option.isSome_some, Bool.not_true]
          have bs := bf'.step mt mb hmem' hx eB eM
          refine ⟨mKV M, rfl, [x.1, x.2], cellD far, rfl, by rw [look_mKV, eM]; rfl, ⟨rfl, by rw [List.length_map]; omega⟩, hN _ ⟨put B' x here, line' ++ [far], .dat (cellD x), bs, ?_, fun o ho => ?_, .inr ⟨_, rfl⟩, by rw [List.map_append]; rfl⟩⟩
          · rw [List.getElem?_append_left (List.getElem?_eq_some_iff.mp eh').1]; exact eh'
          · rw [look_put]
            split
            · rfl
            · rename_i n
              rcases List.mem_append.mp ho with ho | ho
              · exact hp o ho
              · exact absurd (List.mem_singleton.mp ho) n
    · rintro ρ ⟨B', line', s7', bf', eh', hp, h7', rfl⟩
      have hl' := (List.getElem?_eq_some_iff.mp eh').1
      refine ⟨m - 1, by omega, B', line', k + 1, .dat (cellD here), s7', bf'.mono (fun i g hi eg o ho => ?_) (by omega), by omega, .inr ⟨_, rfl⟩, h7', rfl⟩
      by_cases ik : i < k
      · exact bf'.cl i g ik eg o ho
      · have : i = k := by omega
        subst this
        rw [eh'] at eg
        cases eg
        exact hp o ho
  · rw [decide_eq_false (by omega)]
    have ek : k = line.length := by have := bf.ce; omega
    refine ⟨?_, hn (Bf.stuck (ek ▸ bf)) B⟩
    rcases h6 with rfl | ⟨_, rfl⟩ <;> rcases h7 with rfl | ⟨_, rfl⟩ <;> rfl
def dfLaid : DFM := fun kds xs Q => ∃ zs M B b e t, kds = mKV M ∧ xs = [dictD (mKV B), cellD b, cellD e] ∧ zs.length ≤ 40 ∧ Mt zs M ∧ Trail M B b e t ∧ (t.map Prod.fst).Nodup ∧ (∀ o g, look B o = some g → g ∈ zs ∧ o ∈ nearL zs g ∧ dark g = true) ∧ look M e = none ∧ look M b = none ∧ Q (mKV (flip M t))
theorem put_len (M : Tb) (z c : Cell) : (put M z c).length ≤ M.length + 1 := by
  unfold put
  split
  · simp
  · simp
theorem flip_len : ∀ (t M : Tb), (flip M t).length ≤ M.length + 2 * t.length
  | [], M => by simp [flip]
  | p :: t, M => by
    have h1 := flip_len t (put (put M p.1 p.2) p.2 p.1)
    have h2 := put_len (put M p.1 p.2) p.2 p.1
    have h3 := put_len M p.1 p.2
    show (flip (put (put M p.1 p.2) p.2 p.1) t).length ≤ _
    rw [List.length_cons]
    omega
theorem GM_laid_along (T : Txt K mg) : GoodM P w K mg base "laid_along" s_laid_along 1 ["partner", "back", "begin", "end"] dfLaid := by
  refine goodM_mk (N := ["partner", "back", "begin", "end", "other", "here", "later"]) T.f_laid_along sc_laid_along (fun _ _ _ _ _ _ us hl => match us, hl with | [_, _, _, _], _ => rfl) (by rintro kds xs Q ⟨zs, M, B, b, e, t, rfl, rfl, _⟩; rfl) (fun f cdv A outer s H E hr =>
    (dss_cons (ds_set 4 sc_laid_along.nd (de_name 3))
  (dss_one (ds_while PassesOwn.never (dc_cmp (od_isNot) (de_name 4) de_non (nomark _))
  (dss_cons (ds_set 5 sc_laid_along.nd (de_dget hr.u1 (de_name 1) (de_name 4)))
  (dss_cons (ds_set 6 sc_laid_along.nd (de_getDic 0 hr.u1 (de_name 5)))
  (dss_cons (ds_put2 0 4 5 5 4 rfl hr.u1)
  (dss_one (ds_set 4 sc_laid_along.nd (de_if (dc_cmp (od_ne hr.u) (de_name 5) (de_name 2) (nomark _)) (de_name 6) de_non)))))))))) ?_
  rintro kds xs a Q ⟨zs, M, B, b, e, t, rfl, rfl, hl, mt, ht, nd, nB, he, hb, h⟩
  walk_at "dl"
  have tl : t.length ≤ zs.length := by
    have := nodup_le (t.map Prod.fst) zs nd fun x hx => by
      obtain ⟨p, hp, rfl⟩ := List.mem_map.mp hx
      exact (nB _ _ (ht.facts.1 p hp)).1
    simpa using this
  have ml : M.length ≤ zs.length := by
    have := nodup_le (M.map Prod.fst) zs mt.nd fun x hx => by
      obtain ⟨y, hy⟩ := Option.isSome_iff_exists.mp (look_some.mpr hx)
      exact (mt.ok _ _ hy).2.2
    simpa using this
  have fct := ht.facts.1
  unfold dWhile
  refine ⟨fun m ρ => ∃ (pre : Tb) (x s5 s6 : Sl), ((m = 0 ∧ pre = t ∧ x = .dat .none) ∨ ∃ (rest : Tb) (o : Cell), m = rest.length ∧ t = pre ++ rest ∧ x = .dat (cellD o) ∧ Trail M B b o rest) ∧ Du s5 ∧ Du s6 ∧ ρ = [.mdic a (mKV (flip M pre)), .dat (dictD (mKV B)), .dat (cellD b), .dat (cellD e), x, s5, s6],
    ⟨t.length, [], _, _, _, .inr ⟨t, e, rfl, rfl, rfl, ht⟩, .inl rfl, .inl rfl, rfl⟩, ?_⟩
  rintro m ρ ⟨pre, x, s5, s6, h1, h5, h6, rfl⟩
  rcases h1 with ⟨rfl, rfl, rfl⟩ | ⟨rest, o, rfl, et, rfl, tr⟩
  · walk_at "dl"
    exact ⟨_, rfl, h⟩
  · obtain ⟨h', rest', er, eB⟩ : ∃ h' rest', rest = (h', o) :: rest' ∧ look B o = some h' := by
      cases tr with
      | last q => exact ⟨_, _, rfl, q⟩
      | more q _ _ _ => exact ⟨_, _, rfl, q⟩
    subst er
    have hl' : (mKV (flip M pre)).length < 1000 := by
      have := flip_len pre M
      have := congrArg List.length et
      rw [len_mKV]
      simp at this
      omega
    have off : look (flip M pre) h' = look M h' := by
      refine flip_off pre M h' fun p hp => ⟨fun q => ?_, fun q => ?_⟩
      · rw [et, List.map_append, List.nodup_append] at nd
        exact nd.2.2 p.1 (List.mem_map_of_mem hp) h' (by simp) q.symm
      · have d1 := (nB _ _ eB).2.2
        have d2 := nB _ _ (fct p (by rw [et]; simp [hp]))
        have d3 := near_dark d2.2.1
        rw [d2.2.2, ← q, d1] at d3
        cases d3
    walk_at "dl"
    refine ⟨mKV B, [o.1, o.2], cellD h', rfl, rfl, by rw [look_mKV, eB]; rfl, mKV (flip M pre), rfl, [h'.1, h'.2], rfl, some a, mKV (flip M pre), cellD o, cellD h', [h'.1, h'.2], [o.1, o.2], rfl, ⟨rfl, rfl, rfl, rfl⟩, ⟨rfl, hl'⟩, by rw [okD_cell, okD_cell]; rfl, ?_⟩
    have ef : putD (putD (mKV (flip M pre)) [h'.1, h'.2] (cellD o)) [o.1, o.2] (cellD h') = mKV (flip M (pre ++ [(h', o)])) := by
      rw [put_mKV, put_mKV]
      unfold flip
      rw [List.foldl_append]; rfl
    rw [eqv_cell, ef, look_mKV, off]
    by_cases hb' : h' = b
    · rw [decide_eq_true hb']
      have er : rest' = [] := by
        cases tr with
        | last q => rfl
        | more _ q _ _ => exact absurd hb' q
      subst er
      exact ⟨0, by omega, t, .dat .none, _, _, .inl ⟨rfl, rfl, rfl⟩, .inr ⟨_, rfl⟩, .inr ⟨_, rfl⟩, by rw [et]; rfl⟩
    · rw [decide_eq_false hb']
      cases tr with
      | last q => exact absurd rfl hb'
      | more q1 q2 q3 q4 =>
        rename_i o'
        rw [q3]
        exact ⟨rest'.length, by omega, pre ++ [(h', o)], .dat (cellD o'), _, _, .inr ⟨rest', o', rfl, by rw [et]; simp, rfl, q4⟩, .inr ⟨_, rfl⟩, .inr ⟨_, rfl⟩, rfl⟩
end
end K25



/-! Most slabs of a lot: pair by pair. -/
namespace K25
open PySem PySem.Spec PyProof.Rows L2 DL
open PySem.W (AllAlike Sortable dataLe)
local macro_rules | `(tactic| walk_at "dl") => `(tactic| simp only [dSeq, dRet, dRetO, dRetN, dIsi, dName, dAndV, dOrV, dNotV, dAnd, dOr, dNot, dTr, dIf, dIfS, dNext, dNever, dBreak, dCont, dExpr, dSet, dOwn, dAsg, gSet, gTupD, gsCons, gsNil, dCall, dCallK, dACons, dANil, dAPot, dOp, dCB, dCons, dNil, dTup, dLst, dChain, gLen, gIx, gAbs, gInt, gTwo, gTuple, gList, dSl, gSl, dPart, dNoPart, dNeg, dRevT, startD, argSl, List.map_cons, List.map_nil, List.cons_append, List.nil_append, List.append_nil, List.getElem?_cons_zero, List.getElem?_cons_succ, List.set_cons_zero, List.set_cons_succ, List.length_cons, List.length_nil, List.replicate_succ, List.replicate_zero, dK, gCmpI, gLt, gI, gAdd, gMul, gEq, gIs, gIn, Res.data, oData, oLst, oLc, oList, oListRg, iSeq, iRg1, iRg2, iZip_, iEnumD, wipeD, dYes, dPotIx, dPotSet, dPeek, cPeek, dFor, dDat, dFreeze, dInSet, dSetSet, dSortSet, dPeekT, cPeekT, dTmpNew, dND, dNO, dNNil, dSpoil, oMul, dIxOwn, dInDic, dDicNew, dPar, dPar3, zD, zO, zC, xD, xO, RZ.sl, Res.sl, dDictP, dAppend, dExtend, dAugI, dTupOwn, oCall, dPopTo, oSorted, dSpoilAll, dGetDic, dIxDic, dInRdic, dRestDic, dPut2, dRNil, dRCons, dRDic, dCallR, dCallM, gLenD, gIsB, startR, startM, ar2Sl, dPar2z, dLenSet, gInDD, dForPop, dExtA, dSeqQ, gLtA, gSortA, gSort1, dJoin, oSplit, iSig, iEnumSD, gInS, dPopNew, dPotDiv, dCallPot, dRevL, Nat.reduceAdd, Nat.zero_add, Nat.reduceLeDiff, true_and, and_true, Bool.false_eq_true, if_true, if_false])
local macro_rules | `(tactic| walk_at "dv") => `(tactic| simp [isTup, isStr, DL.isInt, DL.isBool, isList, okD_int, okD_bool, okD_none, eqv_int, at0, at1, isNone])
section
variable {P : Program} {w : World} {K : PySem.W.Frag} {mg : Str → Option Value} {base : Heap}
def dfMost : DF := fun as Q => ∃ d zs, as = [.d d] ∧ AsCells d zs ∧ zs.Nodup ∧ zs.length ≤ 40 ∧ ∀ M, Mt zs M → (∀ z ∈ zs, dark z = true → (look M z).isSome = true ∨ Stuck zs M z) → Q (.dat (dictD (mKV M)))
theorem dfMost_len : ∀ as Q, dfMost as Q → as.length = 1 := by
  rintro as Q ⟨d, zs, rfl, _⟩
  rfl
theorem G_most_pairs (T : Txt K mg) : Good P w K mg base "most_pairs" s_most_pairs 3 ["lot"] dfMost := by
  have G_near_in := G_near_in (P := P) (w := w) (base := base) T
  have G_is_dark := G_is_dark (P := P) (w := w) (base := base) T
  have GR_way_from := GR_way_from (P := P) (w := w) (base := base) T
  have GM_laid_along := GM_laid_along (P := P) (w := w) (base := base) T
  refine good_mk (N := ["lot", "near", "partner", "cell", "back", "end"]) T.f_most_pairs sc_most_pairs (fun _ _ _ _ _ _ us hl => match us, hl with | [_], _ => rfl) dfMost_len (fun f cdv A outer s H E hr =>
    (dss_cons (ds_par2z 1 2 rfl sc_most_pairs.nd (dz_d (de_callG G_near_in (hr.mono (by decide)) (da_cons (de_name 0) da_nil))) dz_c)
  (dss_cons (ds_for PassesOwn.never rfl (di_seq (de_name 0)) (dg_name 3 sc_most_pairs.nd)
  (dss_one (ds_if (dc_val (de_callG G_is_dark (hr.mono (by decide)) (da_cons (de_name 3) da_nil)))
  (dss_cons (ds_asg (de_callR GR_way_from (hr.mono (by decide)) (dr_cons (de_name 1) (dr_dic 2 (dr_cons (de_name 3) dr_nil)))) (dg_tup (n := 2) rfl (dgs_cons (dg_name 4 sc_most_pairs.nd) (dgs_cons (dg_name 5 sc_most_pairs.nd) dgs_nil))))
  (dss_one (ds_if (dc_cmp (od_isNot) (de_name 5) de_non (nomark _))
  (dss_one (ds_callM 2 GM_laid_along (hr.mono (by decide)) (dl_cons (de_name 4) (dl_cons (de_name 3) (dl_cons (de_name 5) dl_nil)))))
  dss_nil)))
  dss_nil)))
  (dss_one (ds_restDic 2 (ds_ret (de_name 2))))))) ?_
  rintro as Q ⟨d, zs, rfl, ha, nd, hl, h⟩
  have ha' := ha
  walk_at "dl"
  refine ⟨d, zs, rfl, ha, ⟨nd, by omega⟩, ?_⟩
  simp only []
  have M0 : Mt zs ([] : Tb) := ⟨by simp, fun z w e => by cases e⟩
  rcases ha with rfl | rfl
  all_goals
    simp only []
    refine loopD_pre cellD (fun pre ρ => ∃ (M : Tb) (s3 s4 s5 : Sl), Mt zs M ∧ (∀ z ∈ pre, dark z = true → (look M z).isSome = true ∨ Stuck zs M z) ∧ (∀ z, dark z = true → (look M z).isSome = true → z ∈ pre) ∧ Du s3 ∧ Du s4 ∧ Du s5 ∧ ρ = [.dat _, .dat (dictD (nearKV zs)), .dic (mKV M), s3, s4, s5]) zs _
      ⟨[], .emp, .emp, .emp, M0, (fun z h => nomatch h), (fun z _ h => nomatch h), .inl rfl, .inl rfl, .inl rfl, rfl⟩ ?_ ?_
    · rintro pre x post ρ N exs ⟨M, s3, s4, s5, mt, h1, h2, e3, e4, e5, rfl⟩ hN
      have hx : x ∈ zs := by rw [exs]; simp
      have nx : x ∉ pre := by
        rw [exs, List.nodup_append] at nd
        exact fun q => nd.2.2 x q x (by simp) rfl
      walk_at "dl"
      refine ⟨x, rfl, ?_⟩
      cases dx : dark x with
      | false =>
        simp only [dx]
        refine hN _ ⟨M, .dat (cellD x), s4, s5, mt, fun z hz dz => ?_, fun z dz hz => List.mem_append_left _ (h2 z dz hz), .inr ⟨_, rfl⟩, e4, e5, rfl⟩
        rcases List.mem_append.mp hz with hz | hz
        · exact h1 z hz dz
        · rw [List.mem_singleton.mp hz, dx] at dz; cases dz
      | true =>
        have mx : look M x = none := by
          cases e : look M x with
          | none => rfl
          | some c => exact absurd (h2 x dx (by rw [e]; rfl)) nx
        simp only [dx]
        refine ⟨mKV M, rfl, zs, M, x, rfl, hl, mt, mx, hx, dx, fun B e t ht nd' nB me de => ⟨rfl, none, mKV M, rfl, rfl, zs, M, B, x, e, t, rfl, rfl, hl, mt, ht, nd', nB, me, mx, ?_⟩, fun np B => ⟨rfl, ?_⟩⟩
        · obtain ⟨f1, f2, _⟩ := flip_ok mt mx me dx de nB ht nd'
          refine hN _ ⟨flip M t, .dat (cellD x), .dat (dictD (mKV B)), .dat (cellD e), f1, fun z hz dz => ?_, fun z dz hz => ?_, .inr ⟨_, rfl⟩, .inr ⟨_, rfl⟩, .inr ⟨_, rfl⟩, rfl⟩
          · rcases List.mem_append.mp hz with hz | hz
            · exact (h1 z hz dz).imp (fun q => (f2 z).mpr (.inl q)) fun q => q.flip mt me nB ht
            · exact .inl ((f2 z).mpr (.inr (.inl (List.mem_singleton.mp hz))))
          · rcases (f2 z).mp hz with q | q | q
            · exact List.mem_append_left _ (h2 z dz q)
            · rw [q]; simp
            · rw [q, de] at dz; cases dz
        · refine hN _ ⟨M, .dat (cellD x), .dat (dictD (mKV B)), .dat .none, mt, fun z hz dz => ?_, fun z dz hz => List.mem_append_left _ (h2 z dz hz), .inr ⟨_, rfl⟩, .inr ⟨_, rfl⟩, .inr ⟨_, rfl⟩, rfl⟩
          rcases List.mem_append.mp hz with hz | hz
          · exact h1 z hz dz
          · rw [List.mem_singleton.mp hz]; exact .inr np
    · rintro ρ ⟨M, s3, s4, s5, mt, h1, h2, e3, e4, e5, rfl⟩
      unfold dRestDic
      walk_at "dl"
      refine ⟨?_, h M mt ?_⟩
      · rcases e3 with rfl | ⟨_, rfl⟩ <;> rcases e4 with rfl | ⟨_, rfl⟩ <;> rcases e5 with rfl | ⟨_, rfl⟩ <;> rfl
      · exact h1
end
end K25



/-! Whether a lot can be laid. -/
namespace K25
open PySem PySem.Spec PyProof.Rows L2 DL
open PySem.W (AllAlike Sortable dataLe)
local macro_rules | `(tactic| walk_at "dl") => `(tactic| simp only [dSeq, dRet, dRetO, dRetN, dIsi, dName, dAndV, dOrV, dNotV, dAnd, dOr, dNot, dTr, dIf, dIfS, dNext, dNever, dBreak, dCont, dExpr, dSet, dOwn, dAsg, gSet, gTupD, gsCons, gsNil, dCall, dCallK, dACons, dANil, dAPot, dOp, dCB, dCons, dNil, dTup, dLst, dChain, gLen, gIx, gAbs, gInt, gTwo, gTuple, gList, dSl, gSl, dPart, dNoPart, dNeg, dRevT, startD, argSl, List.map_cons, List.map_nil, List.cons_append, List.nil_append, List.append_nil, List.getElem?_cons_zero, List.getElem?_cons_succ, List.set_cons_zero, List.set_cons_succ, List.length_cons, List.length_nil, List.replicate_succ, List.replicate_zero, dK, gCmpI, gLt, gI, gAdd, gMul, gEq, gIs, gIn, Res.data, oData, oLst, oLc, oList, oListRg, iSeq, iRg1, iRg2, iZip_, iEnumD, wipeD, dYes, dPotIx, dPotSet, dPeek, cPeek, dFor, dDat, dFreeze, dInSet, dSetSet, dSortSet, dPeekT, cPeekT, dTmpNew, dND, dNO, dNNil, dSpoil, oMul, dIxOwn, dInDic, dDicNew, dPar, dPar3, zD, zO, zC, xD, xO, RZ.sl, Res.sl, dDictP, dAppend, dExtend, dAugI, dTupOwn, oCall, dPopTo, oSorted, dSpoilAll, dGetDic, dIxDic, dInRdic, dRestDic, dPut2, dRNil, dRCons, dRDic, dCallR, dCallM, gLenD, gIsB, startR, startM, ar2Sl, dPar2z, dLenSet, gInDD, dForPop, dExtA, dSeqQ, gLtA, gSortA, gSort1, dJoin, oSplit, iSig, iEnumSD, gInS, dPopNew, dPotDiv, dCallPot, dRevL, Nat.reduceAdd, Nat.zero_add, Nat.reduceLeDiff, true_and, and_true, Bool.false_eq_true, if_true, if_false])
local macro_rules | `(tactic| walk_at "dv") => `(tactic| simp [isTup, isStr, DL.isInt, DL.isBool, isList, okD_int, okD_bool, okD_none, eqv_int, at0, at1, isNone])
theorem erase_le {l zs : List Cell} {z : Cell} (h : l.Nodup) (s : ∀ x ∈ l, x ∈ zs) (hz : z ∈ zs) (n : z ∉ l) : l.length < zs.length := by
  have := nodup_le l (zs.erase z) h fun x hx => by
    have ne : x ≠ z := fun e => n (by rw [← e]; exact hx)
    rw [List.mem_erase_of_ne ne]
    exact s x hx
  rw [List.length_erase_of_mem hz] at this
  have := List.length_pos_of_mem hz
  omega
theorem split_len (p : Cell → Bool) : ∀ zs : List Cell, (zs.filter p).length + (zs.filter fun z => !p z).length = zs.length
  | [] => rfl
  | z :: zs => by
    have ih := split_len p zs
    cases e : p z <;> simp [e] <;> omega
theorem pm_inj {zs : List Cell} {f : Cell → Cell} (h : Pm zs f) : ∀ x ∈ zs, ∀ y ∈ zs, f x = f y → x = y := fun x hx y hy e => by
  have a := (h x hx).2
  have b := (h y hy).2
  rw [e, b] at a
  exact a.symm
theorem pm_even {zs : List Cell} {f : Cell → Cell} (nd : zs.Nodup) (h : Pm zs f) : 2 * (zs.filter dark).length = zs.length := by
  have s := split_len dark zs
  have a := nodup_le ((zs.filter dark).map f) (zs.filter fun z => !dark z) (nodup_map (nd.filter _) fun x hx y hy => pm_inj h x (List.mem_filter.mp hx).1 y (List.mem_filter.mp hy).1) fun o ho => by
    obtain ⟨z, hz, rfl⟩ := List.mem_map.mp ho
    obtain ⟨h1, h2⟩ := List.mem_filter.mp hz
    have q := (h z h1).1
    rw [List.mem_filter, near_dark q, h2]
    exact ⟨(mem_near.mp q).2, rfl⟩
  have b := nodup_le ((zs.filter fun z => !dark z).map f) (zs.filter dark) (nodup_map (nd.filter _) fun x hx y hy => pm_inj h x (List.mem_filter.mp hx).1 y (List.mem_filter.mp hy).1) fun o ho => by
    obtain ⟨z, hz, rfl⟩ := List.mem_map.mp ho
    obtain ⟨h1, h2⟩ := List.mem_filter.mp hz
    have q := (h z h1).1
    rw [List.mem_filter, near_dark q]
    exact ⟨(mem_near.mp q).2, h2⟩
  simp only [List.length_map] at a b
  omega
theorem mt_sub {zs : List Cell} {M : Tb} (m : Mt zs M) : ∀ x ∈ M.map Prod.fst, x ∈ zs := fun x hx => by
  obtain ⟨y, hy⟩ := Option.isSome_iff_exists.mp (look_some.mpr hx)
  exact (m.ok _ _ hy).2.2
theorem mt_len {zs : List Cell} {M : Tb} (m : Mt zs M) : M.length ≤ zs.length := by
  have := nodup_le _ zs m.nd (mt_sub m)
  simpa using this
theorem mt_all {zs : List Cell} {M : Tb} (nd : zs.Nodup) (m : Mt zs M) (ev : 2 * (zs.filter dark).length = zs.length) (all : ∀ z ∈ zs, dark z = true → (look M z).isSome = true) : M.length = zs.length ∧ ∃ f, Pm zs f := by
  have get : ∀ z ∈ zs.filter dark, ∃ w, look M z = some w := fun z hz => Option.isSome_iff_exists.mp (all z (List.mem_filter.mp hz).1 (List.mem_filter.mp hz).2)
  let f : Cell → Cell := fun z => (look M z).getD z
  have ef : ∀ z w, look M z = some w → f z = w := fun z w e => by show (look M z).getD z = w; rw [e]; rfl
  have nd2 : (zs.filter dark ++ (zs.filter dark).map f).Nodup := by
    rw [List.nodup_append]
    refine ⟨nd.filter _, nodup_map (nd.filter _) fun x hx y hy e => ?_, fun x hx y hy e => ?_⟩
    · obtain ⟨u, eu⟩ := get x hx
      obtain ⟨v, ev'⟩ := get y hy
      rw [ef _ _ eu, ef _ _ ev'] at e
      have p := (m.ok _ _ eu).1
      have q := (m.ok _ _ ev').1
      rw [e, q] at p
      cases p; rfl
    · obtain ⟨z, hz, rfl⟩ := List.mem_map.mp hy
      obtain ⟨u, eu⟩ := get z hz
      rw [ef _ _ eu] at e
      have d := near_dark (m.ok _ _ eu).2.1
      rw [(List.mem_filter.mp hz).2, ← e, (List.mem_filter.mp hx).2] at d
      cases d
  have l := nodup_le _ (M.map Prod.fst) nd2 fun x hx => by
    rcases List.mem_append.mp hx with hx | hx
    · exact look_some.mp (all x (List.mem_filter.mp hx).1 (List.mem_filter.mp hx).2)
    · obtain ⟨z, hz, rfl⟩ := List.mem_map.mp hx
      obtain ⟨u, eu⟩ := get z hz
      rw [ef _ _ eu]
      exact look_some.mp (by rw [(m.ok _ _ eu).1]; rfl)
  have u := mt_len m
  simp only [List.length_append, List.length_map] at l
  have e : M.length = zs.length := by omega
  refine ⟨e, f, fun z hz => ?_⟩
  have : z ∈ M.map Prod.fst := Classical.byContradiction fun n => by
    have := erase_le m.nd (mt_sub m) hz n
    simp only [List.length_map] at this
    omega
  obtain ⟨w, ew⟩ := Option.isSome_iff_exists.mp (look_some.mpr this)
  rw [ef _ _ ew]
  exact ⟨(m.ok _ _ ew).2.1, ef _ _ (m.ok _ _ ew).1⟩
noncomputable def laidB (zs : List Cell) : Bool := @decide (∃ f, Pm zs f) (Classical.propDecidable _)
theorem laidB_iff {zs : List Cell} : laidB zs = true ↔ ∃ f, Pm zs f := by
  unfold laidB
  exact @decide_eq_true_iff _ (Classical.propDecidable _)
theorem laidB_not {zs : List Cell} : laidB zs = false ↔ ∀ f, ¬ Pm zs f := by
  rw [← Bool.not_eq_true, laidB_iff]
  exact ⟨fun h f q => h ⟨f, q⟩, fun h ⟨f, q⟩ => h f q⟩
section
variable {P : Program} {w : World} {K : PySem.W.Frag} {mg : Str → Option Value} {base : Heap}
def dfIsLaid : DF := fun as Q => ∃ zs : List Cell, as = [.d (.tuple (zs.map cellD))] ∧ zs.Nodup ∧ zs.length ≤ 40 ∧ Q (.dat (.bool (laidB zs)))
theorem dfIsLaid_len : ∀ as Q, dfIsLaid as Q → as.length = 1 := by
  rintro as Q ⟨zs, rfl, _⟩
  rfl
theorem G_is_laid (T : Txt K mg) : Good P w K mg base "is_laid" s_is_laid 4 ["lot"] dfIsLaid := by
  have G_is_dark := G_is_dark (P := P) (w := w) (base := base) T
  have G_most_pairs := G_most_pairs (P := P) (w := w) (base := base) T
  refine good_mk (N := ["lot", "cell"]) T.f_is_laid sc_is_laid (fun _ _ _ _ _ _ us hl => match us, hl with | [_], _ => rfl) dfIsLaid_len (fun f cdv A outer s H E hr =>
    (dss_one (ds_ret (de_and (de_cmp (od_eq hr.u) (de_op od_mul de_int (de_callB (cd_len) T.b_len (dl_cons (DO.de (do_lc (own := [("cell", 1)]) rfl sc_is_laid.nd (di_seq (de_name 0)) (blkOk_by (own := [("cell", 1)]) (by rfl)) (fun _ _ _ _ _ => (dg_name 1 sc_is_laid.nd)) (fun _ _ _ _ _ => (dts_one (dc_val (de_callG G_is_dark (hr.mono (by decide)) (da_cons (de_name 1) da_nil))))) (fun _ _ _ _ _ => (de_name 1)) (by decide))) dl_nil))) (de_callB (cd_len) T.b_len (dl_cons (de_name 0) dl_nil)) (nomark _)) (de_one (de_cmp (od_eq hr.u) (de_callB cd_lenD T.b_len (dl_cons (de_callG G_most_pairs (hr.mono (by decide)) (da_cons (de_name 0) da_nil)) dl_nil)) (de_callB (cd_len) T.b_len (dl_cons (de_name 0) dl_nil)) (nomark _))))))) ?_
  rintro as Q ⟨zs, rfl, nd, hl, h⟩
  walk_at "dl"
  refine lcD_fm cellD dark cellD zs [] (fun x hx Q hq => ?_) (fun x hx _ Q hq => ?_) (by simp; omega) ?_
  · walk_at "dl"
    exact ⟨x, rfl, hq⟩
  · walk_at "dl"
    exact hq
  · rw [List.nil_append, List.length_map, List.length_map]
    have fl := List.length_filter_le dark zs
    refine ⟨?_, by rw [okD_int, okD_int]; rfl, ?_⟩
    · exact .inl ⟨by decide, by decide⟩
    · rw [eqv_int]
      by_cases ev : 2 * (zs.filter dark).length = zs.length
      · rw [decide_eq_true (by omega)]
        refine ⟨_, zs, rfl, .inr rfl, nd, hl, fun M mt hM => ?_⟩
        simp only []
        refine ⟨by rw [okD_int, okD_int]; rfl, ?_⟩
        rw [eqv_int, List.length_map, len_mKV]
        have e : decide ((M.length : Int) = (zs.length : Int)) = laidB zs := by
          by_cases al : ∀ z ∈ zs, dark z = true → (look M z).isSome = true
          · obtain ⟨e, f, pf⟩ := mt_all nd mt ev al
            rw [laidB_iff.mpr ⟨f, pf⟩, e]
            exact decide_eq_true rfl
          · have ⟨z, hz'⟩ : ∃ z, ¬ (z ∈ zs → dark z = true → (look M z).isSome = true) := Classical.not_forall.mp al
            have hz : z ∈ zs := Classical.byContradiction fun n => hz' fun a => absurd a n
            have hz2 : dark z = true := Classical.byContradiction fun n => hz' fun _ a => absurd a n
            have hz3 : ¬ (look M z).isSome = true := fun n => hz' fun _ _ => n
            have nz : look M z = none := by
              cases e : look M z with
              | none => rfl
              | some c => rw [e] at hz3; exact absurd rfl hz3
            have np := ((hM z hz hz2).resolve_left hz3).no_pm mt nz
            rw [laidB_not.mpr np]
            refine decide_eq_false fun q => ?_
            have := erase_le mt.nd (mt_sub mt) hz fun q => by rw [← look_some, nz] at q; cases q
            simp only [List.length_map] at this
            omega
        rw [e]
        exact h
      · rw [decide_eq_false (by omega)]
        simp only []
        rw [laidB_not.mpr fun f pf => ev (pm_even nd pf)] at h
        exact h
end
end K25



/-! Slabs of a lot, layings of a lot: the program's own looks. -/
namespace K25
open PySem PySem.Spec PyProof.Rows L2 DL
open PySem.W (AllAlike Sortable dataLe)
local macro_rules | `(tactic| walk_at "dl") => `(tactic| simp only [dSeq, dRet, dRetO, dRetN, dIsi, dName, dAndV, dOrV, dNotV, dAnd, dOr, dNot, dTr, dIf, dIfS, dNext, dNever, dBreak, dCont, dExpr, dSet, dOwn, dAsg, gSet, gTupD, gsCons, gsNil, dCall, dCallK, dACons, dANil, dAPot, dOp, dCB, dCons, dNil, dTup, dLst, dChain, gLen, gIx, gAbs, gInt, gTwo, gTuple, gList, dSl, gSl, dPart, dNoPart, dNeg, dRevT, startD, argSl, List.map_cons, List.map_nil, List.cons_append, List.nil_append, List.append_nil, List.getElem?_cons_zero, List.getElem?_cons_succ, List.set_cons_zero, List.set_cons_succ, List.length_cons, List.length_nil, List.replicate_succ, List.replicate_zero, dK, gCmpI, gLt, gI, gAdd, gMul, gEq, gIs, gIn, Res.data, oData, oLst, oLc, oList, oListRg, iSeq, iRg1, iRg2, iZip_, iEnumD, wipeD, dYes, dPotIx, dPotSet, dPeek, cPeek, dFor, dDat, dFreeze, dInSet, dSetSet, dSortSet, dPeekT, cPeekT, dTmpNew, dND, dNO, dNNil, dSpoil, oMul, dIxOwn, dInDic, dDicNew, dPar, dPar3, zD, zO, zC, xD, xO, RZ.sl, Res.sl, dDictP, dAppend, dExtend, dAugI, dTupOwn, oCall, dPopTo, oSorted, dSpoilAll, dGetDic, dIxDic, dInRdic, dRestDic, dPut2, dRNil, dRCons, dRDic, dCallR, dCallM, gLenD, gIsB, startR, startM, ar2Sl, dPar2z, dLenSet, gInDD, dForPop, dExtA, dSeqQ, gLtA, gSortA, gSort1, dJoin, oSplit, iSig, iEnumSD, gInS, dPopNew, dPotDiv, dCallPot, dRevL, Nat.reduceAdd, Nat.zero_add, Nat.reduceLeDiff, true_and, and_true, Bool.false_eq_true, if_true, if_false])
local macro_rules | `(tactic| walk_at "dv") => `(tactic| simp [isTup, isStr, DL.isInt, DL.isBool, isList, okD_int, okD_bool, okD_none, eqv_int, at0, at1, isNone])
section
variable {P : Program} {w : World} {K : PySem.W.Frag} {mg : Str → Option Value} {base : Heap}
def isNat (v : PyData) : Bool := match v with | .int i => decide (0 ≤ i) | _ => false
abbrev Slab := Cell × Cell
def restL (zs : List Cell) (s : Slab) : List Cell := zs.filter fun z => !(decide (z = s.1) || decide (z = s.2))
def dfWo : DF := fun as Q => ∃ (zs : List Cell) (s : Slab), as = [.d (.tuple (zs.map cellD)), .d (placeD s)] ∧ zs.length ≤ 40 ∧ Q (.dat (.tuple ((restL zs s).map cellD)))
theorem dfWo_len : ∀ as Q, dfWo as Q → as.length = 2 := by
  rintro as Q ⟨zs, s, rfl, _⟩
  rfl
def firstsL (zs : List Cell) (z : Cell) : List Cell := (rbL z).filter fun w => decide (w ∈ zs)
def dfFirsts : DF := fun as Q => ∃ (z : Cell) (r : List Cell), as = [.d (.tuple ((z :: r).map cellD))] ∧ Q (.own ((firstsL (z :: r) z).map fun w => placeD (z, w)))
theorem dfFirsts_len : ∀ as Q, dfFirsts as Q → as.length = 1 := by
  rintro as Q ⟨z, r, rfl, _⟩
  rfl
def spotOk (v : PyData) : Bool := match v with | .tuple [a, b] => isNat a && isNat b | _ => false
def asInt (v : PyData) : Option Int := match v with | .int i => some i | _ => none
def asCell (v : PyData) : Option Cell := match v with | .tuple [a, b] => (asInt a).bind fun i => (asInt b).map fun j => (i, j) | _ => none
def asSlab (v : PyData) : Option Slab := match v with | .tuple [x, y] => (asCell x).bind fun z => (asCell y).map fun w => (z, w) | _ => none
theorem asInt_some {v : PyData} {i : Int} (h : asInt v = some i) : v = .int i := by
  cases v <;> simp [asInt] at h
  rw [h]
theorem asCell_some {v : PyData} {z : Cell} (h : asCell v = some z) : v = cellD z := by
  unfold asCell at h
  split at h
  · rename_i a b
    obtain ⟨i, hi, h⟩ := Option.bind_eq_some_iff.mp h
    obtain ⟨j, hj, h⟩ := Option.map_eq_some_iff.mp h
    rw [asInt_some hi, asInt_some hj, ← h]
  · cases h
theorem asCell_cell (z : Cell) : asCell (cellD z) = some z := rfl
theorem asSlab_some {v : PyData} {s : Slab} (h : asSlab v = some s) : v = placeD s := by
  unfold asSlab at h
  split at h
  · rename_i a b
    obtain ⟨i, hi, h⟩ := Option.bind_eq_some_iff.mp h
    obtain ⟨j, hj, h⟩ := Option.map_eq_some_iff.mp h
    rw [asCell_some hi, asCell_some hj, ← h]
  · cases h
theorem asSlab_place (s : Slab) : asSlab (placeD s) = some s := rfl
theorem asSlab_len {ds : List PyData} (h : ¬ ((ds.length : Nat) : Int) = 2) : asSlab (.tuple ds) = none := by
  unfold asSlab
  split
  · rename_i a b e
    cases e
    exact absurd rfl h
  · rfl
def spotIn (zs : List Cell) (v : PyData) : Bool := match asCell v with | some z => decide (z ∈ zs) | none => false
theorem spot_cell {v : PyData} (h : spotOk v = true) : ∃ z : Cell, v = cellD z := by
  unfold spotOk at h
  split at h
  · rename_i a b
    cases a <;> cases b <;> simp [isNat] at h
    exact ⟨(_, _), rfl⟩
  · cases h
theorem spot_of {z : Cell} (h : 0 ≤ z.1 ∧ 0 ≤ z.2) : spotOk (cellD z) = true := by
  simp [spotOk, isNat, h]
def slabOk (zs : List Cell) (s : Slab) : Bool := decide (s.1 ∈ zs) && decide (s.2 ∈ zs) && ltB s.1 s.2 && decide (s.2 ∈ nearL zs s.1)
def slabIn (zs : List Cell) (v : PyData) : Bool := match asSlab v with | some s => slabOk zs s | none => false
theorem slabIn_place (zs : List Cell) (s : Slab) : slabIn zs (placeD s) = slabOk zs s := by unfold slabIn; rw [asSlab_place]
structure LotOk (zs : List Cell) : Prop where
  r : rising zs = true
  b : ∀ z ∈ zs, 0 ≤ z.1 ∧ 0 ≤ z.2
  l : zs.length ≤ 40
def dfLotV (f : List Cell → PyData → PyData) : DF := fun as Q => ∃ (zs : List Cell) (v : PyData), as = [.d (.tuple (zs.map cellD)), .d v] ∧ LotOk zs ∧ Q (.dat (f zs v))
theorem dfLotV_len {f : List Cell → PyData → PyData} : ∀ as Q, dfLotV f as Q → as.length = 2 := by
  rintro as Q ⟨zs, v, rfl, _⟩
  rfl
def cellsL (W : List Slab) : List Cell := W.flatMap fun s => [s.1, s.2]
theorem cellsL_len : ∀ W : List Slab, (cellsL W).length = 2 * W.length
  | [] => rfl
  | s :: W => by
    have := cellsL_len W
    unfold cellsL at this ⊢
    rw [List.flatMap_cons, List.length_append, this, List.length_cons]
    simp; omega
theorem cellsL_snoc (W : List Slab) (s : Slab) : cellsL (W ++ [s]) = cellsL W ++ [s.1, s.2] := by simp [cellsL]
def dfCellsOf : DF := fun as Q => ∃ W : List Slab, as = [.d (.tuple (W.map placeD))] ∧ W.length ≤ 100 ∧ Q (.own ((cellsL W).map cellD))
theorem dfCellsOf_len : ∀ as Q, dfCellsOf as Q → as.length = 1 := by
  rintro as Q ⟨W, rfl, _⟩
  rfl
end
end K25



/-! Part layings, layings, lots: the program's own looks. -/
namespace K25
open PySem PySem.Spec PyProof.Rows L2 DL
open PySem.W (AllAlike Sortable dataLe)
local macro_rules | `(tactic| walk_at "dl") => `(tactic| simp only [dSeq, dRet, dRetO, dRetN, dIsi, dName, dAndV, dOrV, dNotV, dAnd, dOr, dNot, dTr, dIf, dIfS, dNext, dNever, dBreak, dCont, dExpr, dSet, dOwn, dAsg, gSet, gTupD, gsCons, gsNil, dCall, dCallK, dACons, dANil, dAPot, dOp, dCB, dCons, dNil, dTup, dLst, dChain, gLen, gIx, gAbs, gInt, gTwo, gTuple, gList, dSl, gSl, dPart, dNoPart, dNeg, dRevT, startD, argSl, List.map_cons, List.map_nil, List.cons_append, List.nil_append, List.append_nil, List.getElem?_cons_zero, List.getElem?_cons_succ, List.set_cons_zero, List.set_cons_succ, List.length_cons, List.length_nil, List.replicate_succ, List.replicate_zero, dK, gCmpI, gLt, gI, gAdd, gMul, gEq, gIs, gIn, Res.data, oData, oLst, oLc, oList, oListRg, iSeq, iRg1, iRg2, iZip_, iEnumD, wipeD, dYes, dPotIx, dPotSet, dPeek, cPeek, dFor, dDat, dFreeze, dInSet, dSetSet, dSortSet, dPeekT, cPeekT, dTmpNew, dND, dNO, dNNil, dSpoil, oMul, dIxOwn, dInDic, dDicNew, dPar, dPar3, zD, zO, zC, xD, xO, RZ.sl, Res.sl, dDictP, dAppend, dExtend, dAugI, dTupOwn, oCall, dPopTo, oSorted, dSpoilAll, dGetDic, dIxDic, dInRdic, dRestDic, dPut2, dRNil, dRCons, dRDic, dCallR, dCallM, gLenD, gIsB, startR, startM, ar2Sl, dPar2z, dLenSet, gInDD, dForPop, dExtA, dSeqQ, gLtA, gSortA, gSort1, dJoin, oSplit, iSig, iEnumSD, gInS, dPopNew, dPotDiv, dCallPot, dRevL, Nat.reduceAdd, Nat.zero_add, Nat.reduceLeDiff, true_and, and_true, Bool.false_eq_true, if_true, if_false])
local macro_rules | `(tactic| walk_at "dv") => `(tactic| simp [isTup, isStr, DL.isInt, DL.isBool, isList, okD_int, okD_bool, okD_none, eqv_int, at0, at1, isNone])
theorem nodup_leK : ∀ (l D : List (List Int)), l.Nodup → (∀ x ∈ l, x ∈ D) → l.length ≤ D.length
  | [], _, _, _ => Nat.zero_le _
  | x :: l, D, h, hs => by
    rw [List.nodup_cons] at h
    have ih := nodup_leK l (D.erase x) h.2 fun y hy => by
      have ne : y ≠ x := fun e => h.1 (e ▸ hy)
      rw [List.mem_erase_of_ne ne]
      exact hs y (List.mem_cons_of_mem _ hy)
    rw [List.length_erase_of_mem (hs x (by simp))] at ih
    have := List.length_pos_of_mem (hs x (by simp))
    rw [List.length_cons]
    omega
theorem nodup_of_len : ∀ (l ws : List (List Int)), ws.Nodup → (∀ z ∈ ws, z ∈ l) → ws.length = l.length → l.Nodup
  | [], _, _, _, _ => List.nodup_nil
  | x :: l, ws, h, hs, e => by
    rw [List.nodup_cons]
    have nx : x ∉ l := fun hx => by
      have := nodup_leK ws l h fun z hz => (List.mem_cons.mp (hs z hz)).elim (fun e => e ▸ hx) id
      simp only [List.length_cons] at e
      omega
    refine ⟨nx, ?_⟩
    have hn : (ws.erase x).Nodup := h.erase x
    have hsub : ∀ z ∈ ws.erase x, z ∈ l := fun z hz => by
      have h1 := List.mem_of_mem_erase hz
      have ne : z ≠ x := fun e => by
        rw [e] at hz
        exact (List.Nodup.not_mem_erase h) hz
      exact (List.mem_cons.mp (hs z h1)).resolve_left ne
    have l1 := nodup_leK _ _ hn hsub
    have l2 : ws.length ≤ (ws.erase x).length + 1 := by
      rw [List.length_erase]
      split <;> omega
    simp only [List.length_cons] at e
    exact nodup_of_len l _ hn hsub (by omega)
theorem set_len {l ws : List (List Int)} (h : ws.Nodup) (e : ∀ z, z ∈ ws ↔ z ∈ l) : decide (((ws.length : Nat) : Int) = ((l.length : Nat) : Int)) = decide l.Nodup := by
  by_cases q : l.Nodup
  · have a := nodup_leK ws l h fun z hz => (e z).mp hz
    have b := nodup_leK l ws q fun z hz => (e z).mpr hz
    rw [decide_eq_true q, decide_eq_true (by omega)]
  · rw [decide_eq_false q, decide_eq_false fun z => q (nodup_of_len l ws h (fun z hz => (e z).mp hz) (by omega))]
abbrev keyL (zs : List Cell) : List (List Int) := zs.map fun z => [z.1, z.2]
theorem keys_iff {zs : List Cell} : (keyL zs).Nodup ↔ zs.Nodup := by
  refine ⟨fun h => ?_, keys_nodup⟩
  rw [List.nodup_iff_pairwise_ne] at *
  rw [List.pairwise_map] at h
  exact h.imp fun h e => h (by rw [e])
theorem cells_key (zs : List Cell) : zs.map cellD = (keyL zs).map tupI := by rw [List.map_map]; rfl
def ltS (s t : Slab) : Bool := PySem.W.dataLt (placeD s) (placeD t)
def risingS (W : List Slab) : Bool := (W.zip (W.drop 1)).all fun q => ltS q.1 q.2
def goodS (W : List Slab) : Bool := decide (cellsL W).Nodup && risingS W
def rightS (zs : List Cell) (v : PyData) : Bool := match v with | .tuple ds => ds.all (slabIn zs) && goodS (ds.filterMap asSlab) | _ => false
theorem all_slabs {zs : List Cell} : ∀ {ds : List PyData}, ds.all (slabIn zs) = true → ds = (ds.filterMap asSlab).map placeD ∧ ∀ s ∈ ds.filterMap asSlab, slabOk zs s = true
  | [], _ => ⟨rfl, fun s h => nomatch h⟩
  | d :: ds, h => by
    rw [List.all_cons, Bool.and_eq_true] at h
    obtain ⟨i1, i2⟩ := all_slabs h.2
    have h1 := h.1
    unfold slabIn at h1
    split at h1
    · rename_i s es
      rw [List.filterMap_cons, es]
      refine ⟨by simp only [List.map_cons]; rw [← i1, asSlab_some es], fun t ht => ?_⟩
      rcases List.mem_cons.mp ht with rfl | ht
      · exact h1
      · exact i2 t ht
    · cases h1
theorem places_slabs (W : List Slab) : (W.map placeD).filterMap asSlab = W := by
  rw [List.filterMap_map]
  have : (asSlab ∘ placeD) = some := by funext s; rfl
  rw [this, List.filterMap_some]
theorem rightS_iff {zs : List Cell} {v : PyData} : rightS zs v = true ↔ ∃ W, v = .tuple (W.map placeD) ∧ (∀ s ∈ W, slabOk zs s = true) ∧ goodS W = true := by
  constructor
  · intro h
    unfold rightS at h
    split at h
    · rename_i ds
      rw [Bool.and_eq_true] at h
      obtain ⟨a, b⟩ := all_slabs h.1
      exact ⟨_, by rw [← a], b, h.2⟩
    · cases h
  · rintro ⟨W, rfl, h1, h2⟩
    unfold rightS
    simp only []
    rw [places_slabs, h2, Bool.and_true, List.all_map, List.all_eq_true]
    intro s hs
    exact (slabIn_place zs s).trans (h1 s hs)
def laysB (zs : List Cell) (v : PyData) : Bool := match v with | .tuple ds => rightS zs (.tuple ds) && decide (2 * ds.length = zs.length) | _ => false
theorem prD2_places : ∀ (zs ws : List Slab), prD2 (zs.map placeD) (ws.map placeD) = (zs.zip ws).map fun q => .tuple [placeD q.1, placeD q.2]
  | [], _ => by simp [prD2]
  | _ :: _, [] => by simp [prD2]
  | z :: zs, w :: ws => by
    have h := prD2_places zs ws
    unfold prD2 at h ⊢
    simp only [List.map_cons, List.zip_cons_cons]
    rw [h]
theorem alike_place (s t : Slab) : (!(placeD s).hasDict && !(placeD t).hasDict && PySem.W.alike (placeD s) (placeD t)) = true ∧ isNone (placeD s) = false ∧ (placeD s).depth ≤ 60 := by
  refine ⟨by simp [PyData.hasDict, PyData.hasDictAll, PySem.W.alike, PySem.W.alikeAll], rfl, by simp [PyData.depth, PyData.depthAll]⟩
theorem lcD_pairsS {i j : Nat} {te : DT} {ρ : Rho} {Q : List PyData → Prop} (f : Slab × Slab → PyData) (nij : i ≠ j) : ∀ (qs : List (Slab × Slab)) (acc : List PyData),
    (∀ q ∈ qs, ∀ Q : PyData → Prop, Q (f q) → te ((ρ.set i (.dat (placeD q.1))).set j (.dat (placeD q.2))) Q) → acc.length + qs.length ≤ 16777216 → Q (acc ++ qs.map f) →
    lcD (gTupD (gsCons (gSet i) (gsCons (gSet j) gsNil)) 2) dYes te ρ (qs.map fun q => .tuple [placeD q.1, placeD q.2]) acc Q
  | [], acc, _, _, h => by simpa [lcD] using h
  | q :: qs, acc, ht, hl, h => by
    simp only [List.map_cons, lcD, gTupD, gsCons, gsNil, gSet, dYes, List.length_cons, List.length_nil, true_and]
    refine ht q (List.mem_cons_self ..) _ ⟨by simp at hl; omega, ?_⟩
    refine lcD_pairsS f nij qs _ (fun e he => ht e (List.mem_cons_of_mem _ he)) (by simp at hl ⊢; omega) ?_
    simpa using h
section
variable {P : Program} {w : World} {K : PySem.W.Frag} {mg : Str → Option Value} {base : Heap}
/-- few slabs, if they are slabs -/
def Few (v : PyData) : Prop := ∀ ds, v = .tuple ds → ds.length < 32
def dfLotF (f : List Cell → PyData → PyData) : DF := fun as Q => ∃ (zs : List Cell) (v : PyData), as = [.d (.tuple (zs.map cellD)), .d v] ∧ (LotOk zs ∧ Few v) ∧ Q (.dat (f zs v))
theorem dfLotF_len {f : List Cell → PyData → PyData} : ∀ as Q, dfLotF f as Q → as.length = 2 := by
  rintro as Q ⟨zs, v, rfl, _⟩
  rfl
def dfFloorV (C : List Cell → PyData → Prop) (f : List Cell → PyData → PyData) : DF := fun as Q => ∃ (zs : List Cell) (v : PyData), as = [.d (floorD zs), .d v] ∧ FloorOk zs ∧ C zs v ∧ Q (.dat (f zs v))
theorem dfFloorV_len {C : List Cell → PyData → Prop} {f : List Cell → PyData → PyData} : ∀ as Q, dfFloorV C f as Q → as.length = 2 := by
  rintro as Q ⟨zs, v, rfl, _⟩
  rfl
theorem FloorOk.lot {zs : List Cell} (h : FloorOk zs) : LotOk zs := ⟨h.r, fun z hz => ⟨(h.b z hz).1.1, (h.b z hz).2.1⟩, h.l⟩
def bareL (zs : List Cell) (W : List Slab) : List Cell := zs.filter fun z => !decide (z ∈ cellsL W)
def dfBare : DF := fun as Q => ∃ (zs : List Cell) (W : List Slab), as = [.d (floorD zs), .d (.tuple (W.map placeD))] ∧ FloorOk zs ∧ (W.length < 32 ∧ rightS zs (.tuple (W.map placeD)) = true) ∧ Q (.dat (.tuple ((bareL zs W).map cellD)))
theorem dfBare_len : ∀ as Q, dfBare as Q → as.length = 2 := by
  rintro as Q ⟨zs, W, rfl, _⟩
  rfl
/-- a floor and a lot of it, a value -/
def dfLotV3 (f : List Cell → PyData → PyData) : DF := fun as Q => ∃ zs ws v, as = [.d (floorD zs), .d (.tuple (ws.map cellD)), .d v] ∧ FloorOk zs ∧ (rising ws = true ∧ ∀ z ∈ ws, z ∈ zs) ∧ Few v ∧ Q (.dat (f ws v))
theorem dfLotV3_len {f : List Cell → PyData → PyData} : ∀ as Q, dfLotV3 f as Q → as.length = 3 := by
  rintro as Q ⟨zs, ws, v, rfl, _⟩
  rfl
def dfLot (r : List Cell → Res) : DF := fun as Q => ∃ zs ws, as = [.d (floorD zs), .d (.tuple (ws.map cellD))] ∧ FloorOk zs ∧ (rising ws = true ∧ ∀ z ∈ ws, z ∈ zs) ∧ Q (r ws)
theorem dfLot_len {r : List Cell → Res} : ∀ as Q, dfLot r as Q → as.length = 2 := by
  rintro as Q ⟨zs, ws, rfl, _⟩
  rfl
theorem lot_few {zs ws : List Cell} (hz : FloorOk zs) (hw : rising ws = true ∧ ∀ z ∈ ws, z ∈ zs) : ws.length ≤ 40 := Nat.le_trans (nodup_le _ _ (rising_nodup hw.1) hw.2) hz.l
theorem lot_lot {zs ws : List Cell} (hz : FloorOk zs) (hw : rising ws = true ∧ ∀ z ∈ ws, z ∈ zs) : LotOk ws := ⟨hw.1, fun z h => hz.lot.b z (hw.2 z h), lot_few hz hw⟩
theorem G_lot_is_right (T : Txt K mg) : Good P w K mg base "lot_is_right" s_lot_is_right 3 ["floor", "value"] (dfLot fun _ => .dat (.bool true)) := by
  have G_cell_is_right := G_cell_is_right (P := P) (w := w) (base := base) T
  have G_are_rising := G_are_rising (P := P) (w := w) (base := base) T
  refine good_mk (N := ["floor", "value", "one"]) T.f_lot_is_right sc_lot_is_right (fun _ _ _ _ _ _ us hl => match us, hl with | [_, _], _ => rfl) dfLot_len (fun f cdv A outer s H E hr =>
    (dss_cons (ds_if (dc_bool (dw_or (dc_not (dc_val (de_isi kit_tuple T.b_isinstance T.b_tuple (de_name 1)))) (dw_or1 (dc_not (dc_val (de_callB (cd_all rfl) T.b_all (dl_cons (DO.de (do_lc (own := [("one", 2)]) rfl sc_lot_is_right.nd (di_seq (de_name 1)) (blkOk_by (own := [("one", 2)]) (by rfl)) (fun _ _ _ _ _ => (dg_name 2 sc_lot_is_right.nd)) (fun _ _ _ _ _ => dts_nil) (fun _ _ _ _ _ => (de_and (de_callG G_cell_is_right (hr.mono (by decide)) (da_cons (de_name 2) da_nil)) (de_one (de_cmp (od_in hr.u5) (de_name 2) (de_ix (de_name 0) de_int) (by rfl))))) (by decide))) dl_nil)))))))
  (dss_one (ds_ret de_bl))
  dss_nil)
  (dss_one (ds_ret (de_callG G_are_rising (hr.mono (by decide)) (da_cons (de_name 1) da_nil)))))) ?_
  rintro as Q ⟨zs, ws, rfl, hz, hw, h⟩
  have fw := lot_few hz hw
  walk_at "dl"
  simp only [isTup, Bool.not_true]
  refine lcD_m cellD (fun _ => .bool true) ws (fun z hm Q hq => ?_) (by omega) ?_
  · walk_at "dl"
    unfold df1
    simp only [cellOk_in hz (hw.2 z hm), at1]
    refine ⟨ok_in zs z, ?_⟩
    rw [any_cells, decide_eq_true (hw.2 z hm)]
    exact hq
  · have e : (ws.map fun _ => PyData.bool true) = (ws.map cellD).map fun d => .bool ((fun _ => true) d) := by simp
    rw [e]
    refine gAll_map _ _ _ ?_
    have e2 : ((ws.map cellD).all fun _ => true) = true := by simp
    rw [e2]
    simp only [Bool.not_true]
    refine ⟨ws, rfl, by omega, ?_⟩
    simp only [hw.1]
    exact h
theorem G_check_lot (T : Txt K mg) : Good P w K mg base "check_lot" s_check_lot 7 ["floor", "lot"] (dfLot fun _ => .dat .none) := by
  have G_check_floor := G_check_floor (P := P) (w := w) (base := base) T
  have G_lot_is_right := G_lot_is_right (P := P) (w := w) (base := base) T
  refine good_mk (N := ["floor", "lot"]) T.f_check_lot sc_check_lot (fun _ _ _ _ _ _ us hl => match us, hl with | [_, _], _ => rfl) dfLot_len (fun f cdv A outer s H E hr =>
    (dss_cons (ds_expr (de_callG G_check_floor (hr.mono (by decide)) (da_cons (de_name 0) da_nil)))
  (dss_one (ds_if (dc_not (dc_val (de_callG G_lot_is_right (hr.mono (by decide)) (da_cons (de_name 0) (da_cons (de_name 1) da_nil)))))
  (dss_one ds_never)
  dss_nil)))) ?_
  rintro as Q ⟨zs, ws, rfl, hz, hw, h⟩
  walk_at "dl"
  exact ⟨zs, rfl, hz, zs, ws, rfl, hz, hw, h⟩
theorem G_can_lay (T : Txt K mg) : Good P w K mg base "can_lay" s_can_lay 8 ["floor", "lot"] (dfLot fun ws => .dat (.bool (laidB ws))) := by
  have G_check_lot := G_check_lot (P := P) (w := w) (base := base) T
  have G_is_laid := G_is_laid (P := P) (w := w) (base := base) T
  refine good_mk (N := ["floor", "lot"]) T.f_can_lay sc_can_lay (fun _ _ _ _ _ _ us hl => match us, hl with | [_, _], _ => rfl) dfLot_len (fun f cdv A outer s H E hr =>
    (dss_cons (ds_expr (de_callG G_check_lot (hr.mono (by decide)) (da_cons (de_name 0) (da_cons (de_name 1) da_nil))))
  (dss_one (ds_ret (de_callG G_is_laid (hr.mono (by decide)) (da_cons (de_name 1) da_nil)))))) ?_
  rintro as Q ⟨zs, ws, rfl, hz, hw, h⟩
  walk_at "dl"
  exact ⟨zs, ws, rfl, hz, hw, ws, rfl, rising_nodup hw.1, lot_few hz hw, h⟩
end
end K25



/-! All layings of a lot, the first of them; plain. -/
namespace K25
open PySem PySem.Spec PyProof.Rows L2 DL
open PySem.W (AllAlike Sortable dataLe keyToks keyToksAll lex_pre lex_atom lex_one)
abbrev cutR (r : List Cell) (w : Cell) : List Cell := r.filter fun x => !decide (x = w)
/-- one slab more, in all ways -/
def grow (p : List Slab × List Cell) : List (List Slab × List Cell) := match p.2 with
  | [] => [p]
  | z :: r => (firstsL (z :: r) z).map fun w => (p.1 ++ [(z, w)], cutR r w)
def growN : Nat → List (List Slab × List Cell) → List (List Slab × List Cell)
  | 0, fs => fs
  | n + 1, fs => growN n (fs.flatMap grow)
def layL : Nat → List Cell → List (List Slab)
  | _, [] => [[]]
  | 0, _ :: _ => []
  | n + 1, z :: r => (firstsL (z :: r) z).flatMap fun w => (layL n (cutR r w)).map fun W => (z, w) :: W
def doneL (fs : List (List Slab × List Cell)) : List (List Slab) := (fs.filter fun p => decide (p.2 = [])).map (·.1)
theorem doneL_app (a b : List (List Slab × List Cell)) : doneL (a ++ b) = doneL a ++ doneL b := by simp [doneL]
theorem growN_app : ∀ (n : Nat) (a b : List (List Slab × List Cell)), growN n (a ++ b) = growN n a ++ growN n b
  | 0, _, _ => rfl
  | n + 1, a, b => by
    unfold growN
    rw [List.flatMap_append, growN_app n]
theorem growN_nil : ∀ n, growN n [] = []
  | 0 => rfl
  | n + 1 => by unfold growN; rw [List.flatMap_nil, growN_nil n]
theorem done_map {α : Type} (n : Nat) (f : α → List Slab × List Cell) : ∀ l : List α, doneL (growN n (l.map f)) = l.flatMap fun x => doneL (growN n [f x])
  | [] => by rw [List.map_nil, growN_nil]; rfl
  | x :: l => by
    have ih := done_map n f l
    rw [List.map_cons, List.flatMap_cons, ← ih, ← doneL_app, ← growN_app]; rfl
theorem grow_lay : ∀ (n : Nat) (s : List Slab) (l : List Cell), doneL (growN n [(s, l)]) = (layL n l).map (s ++ ·)
  | 0, s, [] => by simp [growN, doneL, layL]
  | 0, s, z :: r => by simp [growN, doneL, layL]
  | n + 1, s, [] => by
    have ih := grow_lay n s []
    unfold growN
    rw [List.flatMap_cons, List.flatMap_nil, List.append_nil]
    have e1 : grow (s, []) = [(s, [])] := rfl
    rw [e1, ih]
    cases n <;> rfl
  | n + 1, s, z :: r => by
    unfold growN
    rw [List.flatMap_cons, List.flatMap_nil, List.append_nil]
    have e1 : grow (s, z :: r) = (firstsL (z :: r) z).map fun w => (s ++ [(z, w)], cutR r w) := rfl
    rw [e1, done_map]
    unfold layL
    rw [List.map_flatMap]
    congr 1
    funext w
    rw [grow_lay n, List.map_map]
    congr 1
    funext W
    simp
theorem firsts_len (zs : List Cell) (z : Cell) : (firstsL zs z).length ≤ 2 := by
  unfold firstsL
  exact Nat.le_trans (List.length_filter_le _ _) (by simp [rbL])
theorem grow_len (p : List Slab × List Cell) : (grow p).length ≤ 2 := by
  unfold grow
  split
  · simp
  · rw [List.length_map]; exact firsts_len _ _
theorem flat_len {α β : Type} (f : α → List β) (h : ∀ x, (f x).length ≤ 2) : ∀ l : List α, (l.flatMap f).length ≤ 2 * l.length
  | [] => by simp
  | x :: l => by
    have ih := flat_len f h l
    have := h x
    rw [List.flatMap_cons, List.length_append, List.length_cons]
    omega
theorem growN_succ : ∀ (n : Nat) (fs : List (List Slab × List Cell)), growN (n + 1) fs = (growN n fs).flatMap grow
  | 0, _ => rfl
  | n + 1, fs => by
    exact growN_succ n (fs.flatMap grow)
theorem growN_len : ∀ (n : Nat) (p : List Slab × List Cell), (growN n [p]).length ≤ 2 ^ n
  | 0, _ => by simp [growN]
  | n + 1, p => by
    rw [growN_succ]
    have := flat_len grow grow_len (growN n [p])
    have := growN_len n p
    rw [Nat.pow_succ]
    omega
/-! ### a lot can be laid just if it has a laying -/
theorem head_lt {z : Cell} {r : List Cell} (h : rising (z :: r) = true) : ∀ x ∈ r, ltB z x = true := (List.pairwise_cons.mp (rising_pw h)).1
theorem rest_eq {z : Cell} {r : List Cell} (w : Cell) (h : rising (z :: r) = true) : restL (z :: r) (z, w) = cutR r w := by
  have nz : z ∉ r := (List.nodup_cons.mp (rising_nodup h)).1
  unfold restL
  rw [List.filter_cons]
  simp only [decide_true, Bool.true_or, Bool.not_true, if_neg (by decide : ¬ (false = true))]
  refine List.filter_congr fun x hx => ?_
  have : ¬ x = z := fun e => nz (e ▸ hx)
  simp [this]
theorem rising_cut {z : Cell} {r : List Cell} (w : Cell) (h : rising (z :: r) = true) : rising (cutR r w) = true := by
  exact pw_rising ((List.pairwise_cons.mp (rising_pw h)).2.filter _)
theorem pm_first {z : Cell} {r : List Cell} {f : Cell → Cell} (h : rising (z :: r) = true) (p : Pm (z :: r) f) : f z ∈ firstsL (z :: r) z ∧ Pm (cutR r (f z)) f := by
  have nz : z ∉ r := (List.nodup_cons.mp (rising_nodup h)).1
  obtain ⟨p1, p2⟩ := p z (by simp)
  obtain ⟨m1, m2⟩ := mem_near.mp p1
  have nfz : f z ≠ z := fun e => by
    have := near_dark p1
    rw [e] at this
    cases hd : dark z <;> rw [hd] at this <;> cases this
  refine ⟨?_, fun x hx => ?_⟩
  · unfold firstsL
    rw [List.mem_filter]
    refine ⟨?_, decide_eq_true m2⟩
    have lt := head_lt h (f z) ((List.mem_cons.mp m2).resolve_left nfz)
    unfold ltB at lt
    have lt := of_decide_eq_true lt
    simp only [besideL, List.mem_cons, List.not_mem_nil, or_false, Prod.ext_iff] at m1
    simp only [rbL, List.mem_cons, List.not_mem_nil, or_false, Prod.ext_iff]
    omega
  · obtain ⟨hx1, hx2⟩ := List.mem_filter.mp hx
    have nw : x ≠ f z := fun e => by simp [e] at hx2
    obtain ⟨q1, q2⟩ := p x (List.mem_cons_of_mem _ hx1)
    refine ⟨?_, q2⟩
    obtain ⟨b1, b2⟩ := mem_near.mp q1
    refine mem_near.mpr ⟨b1, List.mem_filter.mpr ⟨(List.mem_cons.mp b2).resolve_left fun e => ?_, ?_⟩⟩
    · rw [e] at q2
      exact nw q2.symm
    · have : ¬ f x = f z := fun e => by
        rw [e, p2] at q2
        exact nz (q2 ▸ hx1)
      simp [this]
theorem pm_more {z w : Cell} {r : List Cell} {f : Cell → Cell} (h : rising (z :: r) = true) (hw : w ∈ firstsL (z :: r) z) (p : Pm (cutR r w) f) : ∃ g, Pm (z :: r) g := by
  have nz : z ∉ r := (List.nodup_cons.mp (rising_nodup h)).1
  obtain ⟨w1, w2⟩ := List.mem_filter.mp hw
  have w2 := of_decide_eq_true w2
  have bz : w ∈ besideL z := by
    simp only [rbL, List.mem_cons, List.not_mem_nil, or_false] at w1
    rcases w1 with rfl | rfl <;> simp [besideL]
  have hn : w ∈ nearL (z :: r) z := mem_near.mpr ⟨bz, w2⟩
  have nwz : w ≠ z := fun e => by
    have := near_dark hn
    rw [e] at this
    cases hd : dark z <;> rw [hd] at this <;> cases this
  refine ⟨fun x => if x = z then w else if x = w then z else f x, fun x hx => ?_⟩
  by_cases e1 : x = z
  · subst e1
    simp only [if_true]
    refine ⟨hn, ?_⟩
    rw [if_neg nwz]
  · by_cases e2 : x = w
    · subst e2
      simp only [if_neg e1, if_true]
      exact ⟨near_symm hn (by simp), trivial⟩
    · have hr : x ∈ cutR r w := List.mem_filter.mpr ⟨(List.mem_cons.mp hx).resolve_left e1, by simp [e2]⟩
      obtain ⟨q1, q2⟩ := p x hr
      obtain ⟨b1, b2⟩ := mem_near.mp q1
      obtain ⟨b3, b4⟩ := List.mem_filter.mp b2
      have n1 : ¬ f x = z := fun e => nz (e ▸ b3)
      have n2 : ¬ f x = w := fun e => by simp [e] at b4
      simp only [if_neg e1, if_neg e2, if_neg n1, if_neg n2]
      exact ⟨mem_near.mpr ⟨b1, List.mem_cons_of_mem _ b3⟩, q2⟩
theorem laid_nil : laidB [] = true := laidB_iff.mpr ⟨id, fun z h => nomatch h⟩
theorem laid_step {z : Cell} {r : List Cell} (h : rising (z :: r) = true) : laidB (z :: r) = (firstsL (z :: r) z).any fun w => laidB (cutR r w) := by
  cases e : laidB (z :: r) with
  | true =>
    obtain ⟨f, p⟩ := laidB_iff.mp e
    obtain ⟨p1, p2⟩ := pm_first h p
    exact (List.any_eq_true.mpr ⟨_, p1, laidB_iff.mpr ⟨f, p2⟩⟩).symm
  | false =>
    refine ((Bool.not_eq_true _).mp fun q => ?_).symm
    obtain ⟨w, hw, q⟩ := List.any_eq_true.mp q
    obtain ⟨f, p⟩ := laidB_iff.mp q
    obtain ⟨g, p⟩ := pm_more h hw p
    exact laidB_not.mp e g p
theorem cut_len {z w : Cell} {r : List Cell} (h : rising (z :: r) = true) (hw : w ∈ firstsL (z :: r) z) : (cutR r w).length + 1 = r.length := by
  have nd := (List.nodup_cons.mp (rising_nodup h))
  obtain ⟨w1, w2⟩ := List.mem_filter.mp hw
  have w2 := of_decide_eq_true w2
  have nwz : w ≠ z := fun e => by
    rw [e] at w1
    simp only [rbL, List.mem_cons, List.not_mem_nil, or_false, Prod.ext_iff] at w1
    omega
  have hr : w ∈ r := (List.mem_cons.mp w2).resolve_left nwz
  have : ∀ l : List Cell, l.Nodup → w ∈ l → (cutR l w).length + 1 = l.length := by
    intro l
    induction l with
    | nil => intro _ h; cases h
    | cons y l ih =>
      intro hn hm
      rw [List.nodup_cons] at hn
      by_cases e : y = w
      · subst e
        have : cutR (y :: l) y = l := by
          unfold cutR
          rw [List.filter_cons]
          simp only [decide_true, Bool.not_true, if_neg (by decide : ¬ (false = true))]
          rw [List.filter_eq_self]
          intro x hx
          have : ¬ x = y := fun e => hn.1 (e ▸ hx)
          simp [this]
        rw [this, List.length_cons]
      · have i := ih hn.2 ((List.mem_cons.mp hm).resolve_left fun q => e q.symm)
        unfold cutR at i ⊢
        rw [List.filter_cons]
        simp only [e, decide_false, Bool.not_false, if_true, List.length_cons]
        omega
  exact this r nd.2 hr
/-- the first laying -/
noncomputable def firstL : Nat → List Cell → List Slab
  | _, [] => []
  | 0, _ :: _ => []
  | n + 1, z :: r => match (firstsL (z :: r) z).find? fun w => laidB (cutR r w) with
    | some w => (z, w) :: firstL n (cutR r w)
    | none => []
theorem head_flat {α β : Type} (f : α → List β) (g : α → β) (c : α → Bool) (h : ∀ x, ∀ l : List α, x ∈ l → True) : ∀ l : List α, (∀ x ∈ l, (f x).head? = if c x = true then some (g x) else none) → (l.flatMap f).head? = (l.find? c).map g
  | [], _ => rfl
  | x :: l, hl => by
    have ih := head_flat f g c h l fun y hy => hl y (List.mem_cons_of_mem _ hy)
    have hx := hl x (by simp)
    rw [List.flatMap_cons, List.head?_append, hx, ih, List.find?_cons]
    cases c x <;> simp
theorem lay_head : ∀ (n : Nat) (zs : List Cell), rising zs = true → zs.length ≤ 2 * n → (layL n zs).head? = if laidB zs = true then some (firstL n zs) else none
  | 0, [], _, _ => by rw [laid_nil]; rfl
  | n + 1, [], _, _ => by rw [laid_nil]; rfl
  | 0, z :: r, _, h => by simp at h
  | n + 1, z :: r, h, hl => by
    unfold layL firstL
    rw [head_flat _ (fun w => (z, w) :: firstL n (cutR r w)) (fun w => laidB (cutR r w)) (fun _ _ _ => trivial) _ fun w hw => ?_, laid_step h]
    · cases e : (firstsL (z :: r) z).find? fun w => laidB (cutR r w) with
      | none =>
        have : ((firstsL (z :: r) z).any fun w => laidB (cutR r w)) = false := by
          rw [List.any_eq_false]
          intro x hx
          exact List.find?_eq_none.mp e x hx
        rw [this]; rfl
      | some w =>
        have : ((firstsL (z :: r) z).any fun w => laidB (cutR r w)) = true := List.any_eq_true.mpr ⟨w, List.mem_of_find?_eq_some e, List.find?_some (p := fun w => laidB (cutR r w)) e⟩
        rw [this]; rfl
    · have ih := lay_head n (cutR r w) (rising_cut w h) (by have := cut_len h hw; simp only [List.length_cons] at hl; omega)
      rw [List.head?_map, ih]
      cases laidB (cutR r w) <;> rfl
/-! ### they are in order -/
theorem place_toks (z w : Cell) (l : List (Int ⊕ List Nat)) : Sum.inl 1 :: (keyToks (placeD (z, w)) ++ l) = [.inl 1, .inl 1, .inl 1, .inl z.1, .inl 1, .inl z.2, .inl 0, .inl 1, .inl 1] ++ (Sum.inl w.1 :: (.inl 1 :: .inl w.2 :: .inl 0 :: .inl 0 :: l)) := by
  simp [keyToks, keyToksAll]
theorem lays_lt {z w w' : Cell} (h : w.1 < w'.1) (W W' : List Slab) : PySem.W.dataLt (.tuple (((z, w) :: W).map placeD)) (.tuple (((z, w') :: W').map placeD)) = true := by
  rw [PySem.W.dataLt_tuple, List.map_cons, List.map_cons, PySem.W.toks_all_cons, PySem.W.toks_all_cons, place_toks, place_toks, lex_pre, lex_atom (fun e => by have := Sum.inl.inj e; omega), lex_one]
  exact decide_eq_true h
theorem lays_cons (s : Slab) (W W' : List Slab) : PySem.W.dataLt (.tuple ((s :: W).map placeD)) (.tuple ((s :: W').map placeD)) = PySem.W.dataLt (.tuple (W.map placeD)) (.tuple (W'.map placeD)) := by
  rw [PySem.W.dataLt_tuple, PySem.W.dataLt_tuple, List.map_cons, List.map_cons, PySem.W.toks_all_cons, PySem.W.toks_all_cons]
  exact (lex_pre (Sum.inl 1 :: keyToks (placeD s)) _ _)
theorem lay_sorted : ∀ (n : Nat) (zs : List Cell), (layL n zs).Pairwise fun W W' => PySem.W.dataLt (.tuple (W.map placeD)) (.tuple (W'.map placeD)) = true
  | 0, [] => by simp [layL]
  | n + 1, [] => by simp [layL]
  | 0, _ :: _ => .nil
  | n + 1, z :: r => by
    unfold layL
    have sub : ∀ w, ((layL n (cutR r w)).map fun W => (z, w) :: W).Pairwise fun W W' => PySem.W.dataLt (.tuple (W.map placeD)) (.tuple (W'.map placeD)) = true := fun w => by
      rw [List.pairwise_map]
      exact (lay_sorted n (cutR r w)).imp fun {a b} h => by rw [lays_cons]; exact h
    have ex : ∀ (a b : List Slab) (w w' : Cell), a ∈ ((layL n (cutR r w)).map fun W => (z, w) :: W) → b ∈ ((layL n (cutR r w')).map fun W => (z, w') :: W) → w.1 < w'.1 → PySem.W.dataLt (.tuple (a.map placeD)) (.tuple (b.map placeD)) = true := by
      intro a b w w' ha hb lt
      obtain ⟨A, _, rfl⟩ := List.mem_map.mp ha
      obtain ⟨B, _, rfl⟩ := List.mem_map.mp hb
      exact lays_lt lt A B
    have ef : firstsL (z :: r) z = (if (z.1, z.2 + 1) ∈ z :: r then [(z.1, z.2 + 1)] else []) ++ (if (z.1 + 1, z.2) ∈ z :: r then [(z.1 + 1, z.2)] else []) := by
      unfold firstsL rbL
      rw [List.filter_cons, List.filter_cons, List.filter_nil]
      by_cases a : (z.1, z.2 + 1) ∈ z :: r <;> by_cases b : (z.1 + 1, z.2) ∈ z :: r <;> simp only [a, b, decide_true, decide_false, if_true, if_false, Bool.false_eq_true, List.nil_append, List.append_nil, List.cons_append]
    rw [ef]
    by_cases a : (z.1, z.2 + 1) ∈ z :: r
    · rw [if_pos a]
      by_cases b : (z.1 + 1, z.2) ∈ z :: r
      · rw [if_pos b]
        rw [List.flatMap_append, List.flatMap_singleton, List.flatMap_singleton, List.pairwise_append]
        exact ⟨sub _, sub _, fun p hp q hq => ex p q _ _ hp hq (by simp only; omega)⟩
      · rw [if_neg b, List.append_nil, List.flatMap_singleton]
        exact sub _
    · rw [if_neg a, List.nil_append]
      by_cases b : (z.1 + 1, z.2) ∈ z :: r
      · rw [if_pos b, List.flatMap_singleton]
        exact sub _
      · rw [if_neg b]; exact .nil
theorem lt_le {a b : PyData} (h : PySem.W.dataLt a b = true) : dataLe false id a b = true := by
  show (!PyProof.Rows.lexLt itemOrd (keyToks b) (keyToks a)) = true
  cases e : PyProof.Rows.lexLt itemOrd (keyToks b) (keyToks a) with
  | false => rfl
  | true =>
    have t := (listOrd itemOrd).trans _ _ _ h e
    have i := (listOrd itemOrd).irrefl (keyToks a)
    exact absurd t (by rw [i]; simp)
theorem sort_lays (n : Nat) (zs : List Cell) : sortD ((layL n zs).map fun W => .tuple (W.map placeD)) = (layL n zs).map fun W => .tuple (W.map placeD) := by
  unfold sortD
  refine List.mergeSort_of_pairwise ?_
  rw [List.pairwise_map]
  exact (lay_sorted n zs).imp fun h => lt_le h
end K25



/-! The first laying; all layings: walked. -/
namespace K25
open PySem PySem.Spec PyProof.Rows L2 DL
open PySem.W (AllAlike Sortable dataLe)
local macro_rules | `(tactic| walk_at "dl") => `(tactic| simp only [dSeq, dRet, dRetO, dRetN, dIsi, dName, dAndV, dOrV, dNotV, dAnd, dOr, dNot, dTr, dIf, dIfS, dNext, dNever, dBreak, dCont, dExpr, dSet, dOwn, dAsg, gSet, gTupD, gsCons, gsNil, dCall, dCallK, dACons, dANil, dAPot, dOp, dCB, dCons, dNil, dTup, dLst, dChain, gLen, gIx, gAbs, gInt, gTwo, gTuple, gList, dSl, gSl, dPart, dNoPart, dNeg, dRevT, startD, argSl, List.map_cons, List.map_nil, List.cons_append, List.nil_append, List.append_nil, List.getElem?_cons_zero, List.getElem?_cons_succ, List.set_cons_zero, List.set_cons_succ, List.length_cons, List.length_nil, List.replicate_succ, List.replicate_zero, dK, gCmpI, gLt, gI, gAdd, gMul, gEq, gIs, gIn, Res.data, oData, oLst, oLc, oList, oListRg, iSeq, iRg1, iRg2, iZip_, iEnumD, wipeD, dYes, dPotIx, dPotSet, dPeek, cPeek, dFor, dDat, dFreeze, dInSet, dSetSet, dSortSet, dPeekT, cPeekT, dTmpNew, dND, dNO, dNNil, dSpoil, oMul, dIxOwn, dInDic, dDicNew, dPar, dPar3, zD, zO, zC, xD, xO, RZ.sl, Res.sl, dDictP, dAppend, dExtend, dAugI, dTupOwn, oCall, dPopTo, oSorted, dSpoilAll, dGetDic, dIxDic, dInRdic, dRestDic, dPut2, dRNil, dRCons, dRDic, dCallR, dCallM, gLenD, gIsB, startR, startM, ar2Sl, dPar2z, dLenSet, gInDD, dForPop, dExtA, dSeqQ, gLtA, gSortA, gSort1, dJoin, oSplit, iSig, iEnumSD, gInS, dPopNew, dPotDiv, dCallPot, dRevL, Nat.reduceAdd, Nat.zero_add, Nat.reduceLeDiff, true_and, and_true, Bool.false_eq_true, if_true, if_false])
local macro_rules | `(tactic| walk_at "dv") => `(tactic| simp [isTup, isStr, DL.isInt, DL.isBool, isList, okD_int, okD_bool, okD_none, eqv_int, at0, at1, isNone])
theorem ok_nil (zs : List Cell) : (okD (.tuple (zs.map cellD)) && okD (.tuple [])) = true := by rw [(okD_cells zs).2]; exact (okD_cells []).2
theorem eqvT_nil : PyData.eqv (.tuple []) (.tuple []) = true := by simp [PyData.eqv, PyData.eqvAll]
theorem eqvT_cons (x : PyData) (r : List PyData) : PyData.eqv (.tuple (x :: r)) (.tuple []) = false := by simp [PyData.eqv, PyData.eqvAll]
theorem nt_du {s : Sl} {ρ : Rho} (h : Du s) (h2 : noTmp ρ = true) : noTmp (s :: ρ) = true := by rcases h with rfl | ⟨_, rfl⟩ <;> exact h2
theorem nt_dat {d : PyData} {ρ : Rho} (h2 : noTmp ρ = true) : noTmp (.dat d :: ρ) = true := h2
theorem nt_own {d : List PyData} {ρ : Rho} (h2 : noTmp ρ = true) : noTmp (.own d :: ρ) = true := h2
/-- slabs and what is left -/
abbrev pD (p : List Slab × List Cell) : PyData := .tuple [.tuple (p.1.map placeD), .tuple (p.2.map cellD)]
theorem growN_fst : ∀ (n : Nat) (p q : List Slab × List Cell), q ∈ growN n [p] → q.1.length ≤ p.1.length + n ∧ q.2.length ≤ p.2.length
  | 0, p, q, h => by rw [show growN 0 [p] = [p] from rfl, List.mem_singleton] at h; rw [h]; omega
  | n + 1, p, q, h => by
    rw [growN_succ] at h
    obtain ⟨x, hx, hq⟩ := List.mem_flatMap.mp h
    have ih := growN_fst n p x hx
    unfold grow at hq
    split at hq
    · rw [List.mem_singleton.mp hq]; omega
    · rename_i z r er
      obtain ⟨w, _, rfl⟩ := List.mem_map.mp hq
      have : (cutR r w).length ≤ r.length := List.length_filter_le _ _
      rw [er, List.length_cons] at ih
      simp only [List.length_append, List.length_singleton]
      omega
theorem lcD_P {i j : Nat} {tt : DTT} {te : DT} {ρ : Rho} {Q : List PyData → Prop} (nij : i ≠ j) (c : List Slab × List Cell → Bool) (f : List Slab × List Cell → PyData) : ∀ (qs : List (List Slab × List Cell)) (acc : List PyData),
    (∀ q ∈ qs, ∀ Q : Bool → Prop, Q (c q) → tt ((ρ.set i (.dat (.tuple (q.1.map placeD)))).set j (.dat (.tuple (q.2.map cellD)))) Q) →
    (∀ q ∈ qs, c q = true → ∀ Q : PyData → Prop, Q (f q) → te ((ρ.set i (.dat (.tuple (q.1.map placeD)))).set j (.dat (.tuple (q.2.map cellD)))) Q) → acc.length + qs.length ≤ 16777216 → Q (acc ++ (qs.filter c).map f) →
    lcD (gTupD (gsCons (gSet i) (gsCons (gSet j) gsNil)) 2) tt te ρ (qs.map pD) acc Q
  | [], acc, _, _, _, h => by simpa [lcD] using h
  | q :: qs, acc, ht, he, hl, h => by
    simp only [List.map_cons, lcD, gTupD, gsCons, gsNil, gSet, List.length_cons, List.length_nil, true_and]
    refine ht q (List.mem_cons_self ..) _ ?_
    simp only [List.length_cons] at hl
    cases e : c q with
    | true =>
      refine he q (List.mem_cons_self ..) e _ ⟨by omega, ?_⟩
      refine lcD_P nij c f qs _ (fun y hy => ht y (List.mem_cons_of_mem _ hy)) (fun y hy => he y (List.mem_cons_of_mem _ hy)) (by simp; omega) ?_
      simpa [List.filter_cons, e] using h
    | false =>
      refine lcD_P nij c f qs _ (fun y hy => ht y (List.mem_cons_of_mem _ hy)) (fun y hy => he y (List.mem_cons_of_mem _ hy)) (by omega) ?_
      simpa [List.filter_cons, e] using h
theorem alike_places : ∀ W W' : List Slab, PySem.W.alikeAll (W.map placeD) (W'.map placeD) = true
  | [], _ => by simp [PySem.W.alikeAll]
  | _ :: _, [] => by simp [PySem.W.alikeAll]
  | s :: W, t :: W' => by
    rw [List.map_cons, List.map_cons, PySem.W.alikeAll, alike_places W W', Bool.and_true]
    simp [PySem.W.alike, PySem.W.alikeAll]
theorem places_plain : ∀ W : List Slab, PyData.hasDictAll (W.map placeD) = false ∧ PyData.depthAll (W.map placeD) ≤ 3
  | [] => by simp [PyData.hasDictAll, PyData.depthAll]
  | s :: W => by
    obtain ⟨h1, h2⟩ := places_plain W
    refine ⟨by simp [PyData.hasDictAll, PyData.hasDict, h1], ?_⟩
    simp only [List.map_cons, PyData.depthAll, PyData.depth]
    omega
theorem places_lay : ∀ W : List Slab, PyData.canLayAll0 (W.map placeD) = true
  | [] => by simp [PyData.canLayAll0]
  | s :: W => by simp [PyData.canLayAll0, PyData.canLay0, places_lay W]
theorem lays_plain : ∀ Ws : List (List Slab), PyData.hasDictAll (Ws.map fun W => .tuple (W.map placeD)) = false ∧ PyData.depthAll (Ws.map fun W => .tuple (W.map placeD)) ≤ 4 ∧ PyData.canLayAll0 (Ws.map fun W => .tuple (W.map placeD)) = true
  | [] => by simp [PyData.hasDictAll, PyData.depthAll, PyData.canLayAll0]
  | W :: Ws => by
    obtain ⟨h1, h2, h3⟩ := lays_plain Ws
    obtain ⟨g1, g2⟩ := places_plain W
    refine ⟨by simp [PyData.hasDictAll, PyData.hasDict, h1, g1], ?_, by simp [PyData.canLayAll0, PyData.canLay0, h3, places_lay W]⟩
    simp only [List.map_cons, PyData.depthAll, PyData.depth]
    omega
theorem ok_lays (Ws : List (List Slab)) : (okD (.list (Ws.map fun W => .tuple (W.map placeD))) && okD (.list [])) = true := by
  obtain ⟨h1, h2, h3⟩ := lays_plain Ws
  rw [show okD (.list []) = true from (okD_cells []).1, Bool.and_true]
  simp [okD, SeqAt.shaped, PyData.hasDict, PyData.canLay0, PyData.depth, h1, h3]
  omega
theorem hasDictAll_of : ∀ {ds : List PyData}, (∀ d ∈ ds, d.hasDict = false) → PyData.hasDictAll ds = false
  | [], _ => by simp [PyData.hasDictAll]
  | d :: ds, h => by
    simp only [PyData.hasDictAll]
    rw [h d (by simp), hasDictAll_of fun x hx => h x (List.mem_cons_of_mem _ hx)]; rfl
theorem lay_ne {n : Nat} {z : Cell} {r : List Cell} {W : List Slab} (h : W ∈ layL n (z :: r)) : ∃ s V, W = s :: V := by
  cases n with
  | zero => cases h
  | succ n =>
    unfold layL at h
    obtain ⟨w, _, h⟩ := List.mem_flatMap.mp h
    obtain ⟨V, _, rfl⟩ := List.mem_map.mp h
    exact ⟨_, _, rfl⟩
theorem sortOk_lays (n : Nat) (z : Cell) (r : List Cell) (hl : (layL n (z :: r)).length ≤ 16777216) : SortOk ((layL n (z :: r)).map fun W => PyData.tuple (W.map placeD)) := by
  refine ⟨hasDictAll_of fun d hd => ?_, fun d hd d' hd' => ?_, .inl fun d hd => ?_, by simpa using hl, fun d hd => ?_⟩
  · obtain ⟨W, _, rfl⟩ := List.mem_map.mp hd
    simp only [PyData.hasDict]
    exact (places_plain W).1
  · obtain ⟨W, _, rfl⟩ := List.mem_map.mp hd
    obtain ⟨W', _, rfl⟩ := List.mem_map.mp hd'
    simp only [PySem.W.alike]
    exact alike_places W W'
  · obtain ⟨W, hW, rfl⟩ := List.mem_map.mp hd
    obtain ⟨s, V, rfl⟩ := lay_ne hW
    exact ⟨_, _, rfl⟩
  · obtain ⟨W, _, rfl⟩ := List.mem_map.mp hd
    have := (places_plain W).2
    simp only [PyData.depth]
    omega
section
variable {P : Program} {w : World} {K : PySem.W.Frag} {mg : Str → Option Value} {base : Heap}
noncomputable def firstD (zs : List Cell) : PyData := if laidB zs = true then .tuple ((firstL ((zs.length + 1) / 2) zs).map placeD) else .none
def dfFirstBy : DF := fun as Q => ∃ zs : List Cell, as = [.d (.tuple (zs.map cellD))] ∧ rising zs = true ∧ zs.length ≤ 40 ∧ Q (.dat (firstD zs))
theorem dfFirstBy_len : ∀ as Q, dfFirstBy as Q → as.length = 1 := by
  rintro as Q ⟨zs, rfl, _⟩
  rfl
def dfLayings : DF := fun as Q => ∃ zs : List Cell, as = [.d (.tuple (zs.map cellD))] ∧ rising zs = true ∧ zs.length ≤ 40 ∧ Q (.dat (.list ((layL ((zs.length + 1) / 2) zs).map fun W => .tuple (W.map placeD))))
theorem dfLayings_len : ∀ as Q, dfLayings as Q → as.length = 1 := by
  rintro as Q ⟨zs, rfl, _⟩
  rfl
theorem G__law_layings (T : Txt K mg) : Good P w K mg base "_law_layings" s__law_layings 1 ["cells"] dfLayings := by
  refine good_mk (N := ["cells", "found", "turn", "longer", "slabs", "left", "row", "column", "other", "cell"]) T.f__law_layings sc__law_layings (fun _ _ _ _ _ _ us hl => match us, hl with | [_], _ => rfl) dfLayings_len (fun f cdv A outer s H E hr =>
    (dss_cons (ds_set 1 sc__law_layings.nd (DO.de (do_lst (dl_cons (de_tup (dl_cons (de_tup dl_nil) (dl_cons (de_callTy (cd_tuple) T.b_tuple (dl_cons (de_name 0) dl_nil)) dl_nil))) dl_nil))))
  (dss_cons (ds_for PassesOwn.never rfl (di_rg1 T.b_range (dl_cons (de_op od_div (de_op od_add (de_callB (cd_len) T.b_len (dl_cons (de_name 0) dl_nil)) de_int) de_int) dl_nil)) (dg_name 2 sc__law_layings.nd)
  (dss_cons (ds_own 3 sc__law_layings.nd (do_lst dl_nil))
  (dss_cons (ds_for PassesOwn.never rfl (di_seq (de_name 1)) (dg_tup (n := 2) rfl (dgs_cons (dg_name 4 sc__law_layings.nd) (dgs_cons (dg_name 5 sc__law_layings.nd) dgs_nil)))
  (dss_one (ds_if (dc_cmp (od_ne hr.u) (de_name 5) (de_tup dl_nil) (nomark _))
  (dss_cons (ds_asg (de_ix (de_name 5) de_int) (dg_tup (n := 2) rfl (dgs_cons (dg_name 6 sc__law_layings.nd) (dgs_cons (dg_name 7 sc__law_layings.nd) dgs_nil))))
  (dss_one (ds_for PassesOwn.never rfl (di_seq (de_tup (dl_cons (de_tup (dl_cons (de_name 6) (dl_cons (de_op od_add (de_name 7) de_int) dl_nil))) (dl_cons (de_tup (dl_cons (de_op od_add (de_name 6) de_int) (dl_cons (de_name 7) dl_nil))) dl_nil)))) (dg_name 8 sc__law_layings.nd)
  (dss_one (ds_if (dc_cmp (od_in hr.u5) (de_name 8) (de_name 5) (by rfl))
  (dss_one (ds_append 3 (de_tup (dl_cons (de_op od_add (de_name 4) (de_tup (dl_cons (de_tup (dl_cons (de_ix (de_name 5) de_int) (dl_cons (de_name 8) dl_nil))) dl_nil))) (dl_cons (de_callTy (cd_tuple) T.b_tuple (dl_cons (DO.de (do_lc (own := [("cell", 9)]) rfl sc__law_layings.nd (di_seq (de_slice (de_name 5) (do_some de_int) do_none)) (blkOk_by (own := [("cell", 9)]) (by rfl)) (fun _ _ _ _ _ => (dg_name 9 sc__law_layings.nd)) (fun _ _ _ _ _ => (dts_one (dc_cmp (od_ne hr.u) (de_name 9) (de_name 8) (nomark _)))) (fun _ _ _ _ _ => (de_name 9)) (by decide))) dl_nil)) dl_nil)))))
  dss_nil)))))
  (dss_one (ds_append 3 (de_tup (dl_cons (de_name 4) (dl_cons (de_name 5) dl_nil))))))))
  (dss_one (ds_freeze 3 (h := (ds_set 1 sc__law_layings.nd (de_name 3))))))))
  (dss_one (ds_ret (de_callB (cd_sortedA hr.u) T.b_sorted (dl_cons (DO.de (do_lc (own := [("slabs", 4), ("left", 5)]) rfl sc__law_layings.nd (di_seq (de_name 1)) (blkOk_by (own := [("slabs", 4), ("left", 5)]) (by rfl)) (fun _ _ _ _ _ => (dg_tup (n := 2) rfl (dgs_cons (dg_name 4 sc__law_layings.nd) (dgs_cons (dg_name 5 sc__law_layings.nd) dgs_nil)))) (fun _ _ _ _ _ => (dts_one (dc_cmp (od_eq hr.u) (de_name 5) (de_tup dl_nil) (nomark _)))) (fun _ _ _ _ _ => (de_name 4)) (by decide))) dl_nil))))))) ?_
  rintro as Q ⟨zs, rfl, hr, hl, h⟩
  walk_at "dl"
  have en : (((zs.map cellD).length : Int) + 1).fdiv 2 = (((zs.length + 1) / 2 : Nat) : Int) := by
    rw [Int.fdiv_eq_ediv_of_nonneg _ (by decide), List.length_map]; omega
  rw [en]
  obtain ⟨n, hn⟩ : ∃ n, n = (zs.length + 1) / 2 := ⟨_, rfl⟩
  rw [← hn] at h ⊢
  have n20 : n ≤ 20 := by omega
  have p20 : ∀ k, k ≤ 20 → 2 ^ k ≤ 1048576 := fun k hk => Nat.le_trans (Nat.pow_le_pow_right (by decide) hk) (by decide)
  refine ⟨⟨by decide, by decide⟩, ⟨by omega, by omega⟩, ?_⟩
  refine loopD_inv (fun k ρ => ∃ s2 s3 s4 s5 s6 s7 s8 s9, (Du s2 ∧ Du s3 ∧ Du s4 ∧ Du s5 ∧ Du s6 ∧ Du s7 ∧ Du s8 ∧ Du s9) ∧ ρ = [.dat (.tuple (zs.map cellD)), .dat (.list ((growN k [([], zs)]).map pD)), s2, s3, s4, s5, s6, s7, s8, s9]) _ 0 _
    ⟨.emp, .emp, .emp, .emp, .emp, .emp, .emp, .emp, ⟨.inl rfl, .inl rfl, .inl rfl, .inl rfl, .inl rfl, .inl rfl, .inl rfl, .inl rfl⟩, rfl⟩ (fun k d ρ N hk ⟨s2, s3, s4, s5, s6, s7, s8, s9, du, er⟩ hN => ?_) (fun ρ ⟨s2, s3, s4, s5, s6, s7, s8, s9, du, er⟩ => ?_)
  · have kn : k < n := by
      have := (List.getElem?_eq_some_iff.mp hk).1
      simpa [rgD] using this
    subst er
    rw [Nat.zero_add] at hN ⊢
    obtain ⟨fs, hfs⟩ : ∃ fs, fs = growN k [([], zs)] := ⟨_, rfl⟩
    have fl : fs.length ≤ 1048576 := by rw [hfs]; exact Nat.le_trans (growN_len k _) (p20 k (by omega))
    have fb : ∀ p ∈ fs, p.1.length ≤ 20 ∧ p.2.length ≤ 40 := fun p hp => by
      rw [hfs] at hp
      have := growN_fst k ([], zs) p hp
      simp only [List.length_nil, Nat.zero_add] at this
      omega
    rw [← hfs]
    obtain ⟨d2, d3, d4, d5, d6, d7, d8, d9⟩ := du
    walk_at "dl"
    refine loopD_pre pD (fun pre ρ => ∃ s4 s5 s6 s7 s8, (Du s4 ∧ Du s5 ∧ Du s6 ∧ Du s7 ∧ Du s8) ∧ ρ = [.dat (.tuple (zs.map cellD)), .dat (.list (fs.map pD)), .dat d, .own ((pre.flatMap grow).map pD), s4, s5, s6, s7, s8, s9]) fs _
      ⟨s4, s5, s6, s7, s8, ⟨d4, d5, d6, d7, d8⟩, rfl⟩ ?_ ?_
    · rintro pre ⟨S, l⟩ post ρ N' exs ⟨s4, s5, s6, s7, s8, ⟨d4, d5, d6, d7, d8⟩, rfl⟩ hN'
      have hx : (S, l) ∈ fs := by rw [exs]; simp
      have hS : S.length ≤ 20 ∧ l.length ≤ 40 := fb _ hx
      have pl : pre.length < 1048576 := by
        have := congrArg List.length exs
        simp only [List.length_append, List.length_cons] at this
        omega
      have ol : (pre.flatMap grow).length ≤ 2097152 := by
        have := flat_len grow grow_len pre
        omega
      have eg : (pre ++ [(S, l)]).flatMap grow = pre.flatMap grow ++ grow (S, l) := by rw [List.flatMap_append, List.flatMap_singleton]
      cases l with
      | nil =>
        walk_at "dl"
        refine ⟨ok_nil [], ?_⟩
        rw [eqvT_nil]
        refine ⟨⟨nt_dat (nt_dat (nt_dat (nt_own (nt_dat (nt_dat (nt_du d6 (nt_du d7 (nt_du d8 (nt_du d9 rfl))))))))), by rw [List.length_map]; omega⟩, hN' _ ⟨.dat (.tuple (S.map placeD)), .dat (.tuple []), s6, s7, s8, ⟨.inr ⟨_, rfl⟩, .inr ⟨_, rfl⟩, d6, d7, d8⟩, by rw [eg, List.map_append]; rfl⟩⟩
      | cons z r =>
        walk_at "dl"
        refine ⟨ok_nil (z :: r), ?_⟩
        rw [eqvT_cons]
        have a0 : atI (cellD z :: r.map cellD) 0 = some (cellD z) := atI_nat (j := 0) rfl
        rw [a0]
        refine ⟨rfl, ?_⟩
        refine loopD_pre cellD (fun pre2 ρ => ∃ s8, Du s8 ∧ ρ = [.dat (.tuple (zs.map cellD)), .dat (.list (fs.map pD)), .dat d, .own ((pre.flatMap grow ++ (pre2.filter fun w => decide (w ∈ z :: r)).map fun w => (S ++ [(z, w)], cutR r w)).map pD), .dat (.tuple (S.map placeD)), .dat (.tuple ((z :: r).map cellD)), .dat (.int z.1), .dat (.int z.2), s8, s9]) (rbL z) _ ⟨s8, d8, by rw [List.filter_nil, List.map_nil, List.append_nil]; rfl⟩ ?_ ?_
        · rintro pre2 y post2 ρ N2 exs2 ⟨s8, d8, rfl⟩ hN2
          have p2 : pre2.length ≤ 2 := by
            have := congrArg List.length exs2
            simp [rbL] at this
            omega
          have p2f := Nat.le_trans (List.length_filter_le (fun w => decide (w ∈ z :: r)) pre2) p2
          walk_at "dl"
          refine ⟨ok_in (z :: r) y, ?_⟩
          rw [show cellD z :: r.map cellD = (z :: r).map cellD from rfl, any_cells]
          by_cases hy : y ∈ z :: r
          · rw [decide_eq_true hy]
            have a0 : atI ((z :: r).map cellD) 0 = some (cellD z) := atI_nat (j := 0) rfl
            rw [a0]
            simp only []
            refine ⟨by have := hS.1; rw [List.length_map]; omega, ?_⟩
            rw [cut1]
            refine lcD_fm cellD (fun x => !decide (x = y)) cellD r [] (fun x hx Q hq => ?_) (fun x hx _ Q hq => ?_) ?_ ?_
            · walk_at "dl"
              refine ⟨by rw [okD_cell, okD_cell]; rfl, ?_⟩
              rw [eqv_cell]
              exact hq
            · walk_at "dl"
              exact hq
            · have := hS.2
              rw [List.length_cons] at this
              rw [List.length_nil]; omega
            · rw [List.nil_append]
              refine ⟨⟨nt_dat (nt_dat (nt_dat (nt_own (nt_dat (nt_dat (nt_dat (nt_dat (nt_dat (nt_du d9 rfl))))))))), by simp only [List.length_map, List.length_append]; omega⟩, hN2 _ ⟨.dat (cellD y), .inr ⟨_, rfl⟩, ?_⟩⟩
              rw [List.filter_append, List.filter_cons, List.filter_nil]
              have e3 : pD (S ++ [(z, y)], cutR r y) = .tuple [.tuple (S.map placeD ++ [.tuple [cellD z, cellD y]]), .tuple ((cutR r y).map cellD)] := by
                show PyData.tuple [.tuple ((S ++ [(z, y)]).map placeD), _] = _
                rw [List.map_append]; rfl
              simp only [hy, decide_true, if_true, List.map_append, List.map_cons, List.map_nil, List.append_assoc, e3]
          · rw [decide_eq_false hy]
            refine hN2 _ ⟨.dat (cellD y), .inr ⟨_, rfl⟩, ?_⟩
            rw [List.filter_append, List.filter_cons, List.filter_nil]
            simp only [hy, decide_false, if_false, Bool.false_eq_true, List.append_nil]
        · rintro ρ ⟨s8, d8, rfl⟩
          refine hN' _ ⟨.dat (.tuple (S.map placeD)), .dat (.tuple ((z :: r).map cellD)), .dat (.int z.1), .dat (.int z.2), s8, ⟨.inr ⟨_, rfl⟩, .inr ⟨_, rfl⟩, .inr ⟨_, rfl⟩, .inr ⟨_, rfl⟩, d8⟩, ?_⟩
          rw [eg]
          rfl
    · rintro ρ ⟨s4, s5, s6, s7, s8, ⟨d4, d5, d6, d7, d8⟩, rfl⟩
      refine ⟨nt_dat (nt_dat (nt_dat (nt_own (nt_du d4 (nt_du d5 (nt_du d6 (nt_du d7 (nt_du d8 (nt_du d9 rfl))))))))), hN _ ⟨.dat d, .dat (.list ((fs.flatMap grow).map pD)), s4, s5, s6, s7, s8, s9, ⟨.inr ⟨_, rfl⟩, .inr ⟨_, rfl⟩, d4, d5, d6, d7, d8, d9⟩, ?_⟩⟩
      rw [growN_succ, ← hfs]
      rfl
  · subst er
    rw [Nat.zero_add]
    have er : (rgD 0 ((n : Nat) : Int).toNat).length = n := by simp [rgD]
    rw [er]
    have fl : (growN n [([], zs)]).length ≤ 1048576 := Nat.le_trans (growN_len n _) (p20 n n20)
    walk_at "dl"
    refine lcD_P (by decide) (fun p => decide (p.2 = [])) (fun p => .tuple (p.1.map placeD)) _ [] (fun p hp Q hq => ?_) (fun p hp _ Q hq => ?_) (by simp; omega) ?_
    · obtain ⟨S, l⟩ := p
      walk_at "dl"
      refine ⟨ok_nil l, ?_⟩
      cases l with
      | nil => exact hq
      | cons z r =>
        rw [show (z :: r).map cellD = cellD z :: r.map cellD from rfl, eqvT_cons]
        exact hq
    · walk_at "dl"
      exact hq
    · rw [List.nil_append]
      have e1 : ((growN n [([], zs)]).filter fun p => decide (p.2 = [])).map (fun p => PyData.tuple (p.1.map placeD)) = (layL n zs).map fun W => .tuple (W.map placeD) := by
        have := grow_lay n [] zs
        unfold doneL at this
        rw [show (fun p : List Slab × List Cell => PyData.tuple (p.1.map placeD)) = (fun W : List Slab => PyData.tuple (W.map placeD)) ∘ (·.1) from rfl, ← List.map_map, this, List.map_map]
        rfl
      rw [e1]
      have ll : (layL n zs).length ≤ 1048576 := by
        have := congrArg List.length e1
        simp only [List.length_map] at this
        rw [← this]
        exact Nat.le_trans (List.length_filter_le _ _) fl
      cases zs with
      | nil =>
        have e0 : layL n [] = [[]] := by cases n <;> rfl
        rw [e0] at h ⊢
        exact .inr ⟨by simp, h⟩
      | cons z r =>
        refine .inl ⟨sortOk_lays n z r (by omega), ?_⟩
        rw [sort_lays]
        exact h
noncomputable def dfLawFirst : DF := fun as Q => ∃ zs : List Cell, as = [.d (.tuple (zs.map cellD))] ∧ rising zs = true ∧ zs.length ≤ 40 ∧ Q (.dat (firstD zs))
theorem dfLawFirst_len : ∀ as Q, dfLawFirst as Q → as.length = 1 := by
  rintro as Q ⟨zs, rfl, _⟩
  rfl
end
end K25



/-! The law's own looks at layings. -/
namespace K25
open PySem PySem.Spec PyProof.Rows L2 DL
open PySem.W (AllAlike Sortable dataLe)
local macro_rules | `(tactic| walk_at "dl") => `(tactic| simp only [dSeq, dRet, dRetO, dRetN, dIsi, dName, dAndV, dOrV, dNotV, dAnd, dOr, dNot, dTr, dIf, dIfS, dNext, dNever, dBreak, dCont, dExpr, dSet, dOwn, dAsg, gSet, gTupD, gsCons, gsNil, dCall, dCallK, dACons, dANil, dAPot, dOp, dCB, dCons, dNil, dTup, dLst, dChain, gLen, gIx, gAbs, gInt, gTwo, gTuple, gList, dSl, gSl, dPart, dNoPart, dNeg, dRevT, startD, argSl, List.map_cons, List.map_nil, List.cons_append, List.nil_append, List.append_nil, List.getElem?_cons_zero, List.getElem?_cons_succ, List.set_cons_zero, List.set_cons_succ, List.length_cons, List.length_nil, List.replicate_succ, List.replicate_zero, dK, gCmpI, gLt, gI, gAdd, gMul, gEq, gIs, gIn, Res.data, oData, oLst, oLc, oList, oListRg, iSeq, iRg1, iRg2, iZip_, iEnumD, wipeD, dYes, dPotIx, dPotSet, dPeek, cPeek, dFor, dDat, dFreeze, dInSet, dSetSet, dSortSet, dPeekT, cPeekT, dTmpNew, dND, dNO, dNNil, dSpoil, oMul, dIxOwn, dInDic, dDicNew, dPar, dPar3, zD, zO, zC, xD, xO, RZ.sl, Res.sl, dDictP, dAppend, dExtend, dAugI, dTupOwn, oCall, dPopTo, oSorted, dSpoilAll, dGetDic, dIxDic, dInRdic, dRestDic, dPut2, dRNil, dRCons, dRDic, dCallR, dCallM, gLenD, gIsB, startR, startM, ar2Sl, dPar2z, dLenSet, gInDD, dForPop, dExtA, dSeqQ, gLtA, gSortA, gSort1, dJoin, oSplit, iSig, iEnumSD, gInS, dPopNew, dPotDiv, dCallPot, dRevL, Nat.reduceAdd, Nat.zero_add, Nat.reduceLeDiff, true_and, and_true, Bool.false_eq_true, if_true, if_false])
local macro_rules | `(tactic| walk_at "dv") => `(tactic| simp [isTup, isStr, DL.isInt, DL.isBool, isList, okD_int, okD_bool, okD_none, eqv_int, at0, at1, isNone])
theorem loopD_preI {g : DGT} {tb : DS} {D : DEnds} (I : List PyData → Rho → Prop) (xs : List PyData) (ρ : Rho) (h0 : I [] ρ)
    (ht : ∀ pre x post ρ (N : Rho → Prop), xs = pre ++ x :: post → I pre ρ → (∀ ρ', I (pre ++ [x]) ρ' → N ρ') → g x ρ fun ρ1 => tb { nx := N, rt := D.rt, bk := D.nx, ct := N } ρ1) (hD : ∀ ρ, I xs ρ → D.nx ρ) : loopD g tb D xs ρ := by
  have h := loopD_pre (g := g) (tb := tb) (D := D) id I xs ρ h0 ht hD
  rw [List.map_id] at h
  exact h
/-- a cell, as the law asks -/
theorem cell_test {a0 a1 a2 a3 a4 : Sl} {c : PyData} (Q : Bool → Prop) (h : Q (!(asCell c).isSome)) : (dOr (dNot (dTr (dIsi isTup (dName 5))))
    (dOr (dTr (dOp (gEq true) (dCB gLen (dCons (dName 5) dNil)) (dK (PyData.int 2))))
      (dNot (dTr (dCB (gAll false) (dCons (oData (oLc (iSeq (dName 5)) (gSet 6) dYes (dAndV (dIsi DL.isInt (dName 6)) (dNotV (dIsi isBool (dName 6)))) [6])) dNil)))))) [a0, a1, a2, a3, a4, .dat c, .emp, .emp] Q := by
  cases c with
  | tuple es =>
    walk_at "dl"
    simp only [isTup, okD_int, Bool.and_self, eqv_int, true_and]
    by_cases z : ((es.length : Nat) : Int) = 2
    · obtain ⟨x, y, rfl⟩ : ∃ x y, es = [x, y] := by
        match es, z with
        | [x, y], _ => exact ⟨x, y, rfl⟩
        | [], z => exact absurd z (by decide)
        | [_], z => exact absurd z (by simp)
        | _ :: _ :: _ :: _, z => exact absurd z (by simp; omega)
      simp only [z, decide_true, Bool.not_true]
      refine lcD_map (fun d => .bool (asInt d).isSome) [x, y] [] (fun d _ Q hq => ?_) (by simp) ?_
      · walk_at "dl"
        cases d <;> exact hq
      · rw [List.nil_append]
        refine gAll_map _ _ _ ?_
        have e : (asCell (.tuple [x, y])).isSome = ([x, y].all fun d => (asInt d).isSome) := by
          unfold asCell
          simp only [List.all_cons, List.all_nil, Bool.and_true]
          cases asInt x <;> cases asInt y <;> rfl
        rw [e] at h
        exact h
    · have e : asCell (.tuple es) = none := by
        unfold asCell
        split
        · rename_i a b q
          cases q
          exact absurd rfl z
        · rfl
      simp only [z, decide_false, Bool.not_false]
      rw [e] at h
      exact h
  | _ => exact h
theorem eqv_place (s t : Slab) : PyData.eqv (placeD s) (placeD t) = decide (s = t) := by
  have e : PyData.eqv (placeD s) (placeD t) = (PyData.eqv (cellD s.1) (cellD t.1) && (PyData.eqv (cellD s.2) (cellD t.2) && true)) := by simp only [placeD, PyData.eqv, PyData.eqvAll]
  rw [e, eqv_cell, eqv_cell]
  by_cases h : s = t
  · subst h; simp
  · rw [decide_eq_false h]
    by_cases h1 : s.1 = t.1
    · have : ¬ s.2 = t.2 := fun h2 => h (Prod.ext h1 h2)
      simp [h1, this]
    · simp [h1]
theorem any_places (W : List Slab) (s : Slab) : ((W.map placeD).any fun d => PyData.eqv d (placeD s)) = decide (s ∈ W) := by
  induction W with
  | nil => simp
  | cons t W ih =>
    rw [List.map_cons, List.any_cons, ih, eqv_place]
    by_cases h : t = s
    · subst h; simp
    · have h' : ¬ s = t := fun q => h q.symm
      simp [h, h']
theorem mem_places (zs : List Cell) (s : Slab) : decide (s ∈ placesL zs) = slabOk zs s := by
  have key : s ∈ placesL zs ↔ slabOk zs s = true := by
    unfold placesL slabOk
    rw [List.mem_flatMap]
    simp only [Bool.and_eq_true, decide_eq_true_eq]
    constructor
    · rintro ⟨z, hz, h⟩
      obtain ⟨w, hw, rfl⟩ := List.mem_map.mp h
      obtain ⟨h1, h2⟩ := List.mem_filter.mp hw
      have h2 := of_decide_eq_true h2
      refine ⟨⟨⟨hz, h2⟩, ?_⟩, mem_near.mpr ⟨?_, h2⟩⟩
      · simp only [rbL, List.mem_cons, List.not_mem_nil, or_false] at h1
        rcases h1 with rfl | rfl <;> (unfold ltB; exact decide_eq_true (by dsimp only; omega))
      · simp only [rbL, List.mem_cons, List.not_mem_nil, or_false] at h1
        rcases h1 with rfl | rfl <;> simp [besideL]
    · rintro ⟨⟨⟨h1, h2⟩, h3⟩, h4⟩
      refine ⟨s.1, h1, List.mem_map.mpr ⟨s.2, List.mem_filter.mpr ⟨?_, decide_eq_true h2⟩, rfl⟩⟩
      have b := (mem_near.mp h4).1
      unfold ltB at h3
      have h3 := of_decide_eq_true h3
      simp only [besideL, List.mem_cons, List.not_mem_nil, or_false, Prod.ext_iff] at b
      simp only [rbL, List.mem_cons, List.not_mem_nil, or_false, Prod.ext_iff]
      omega
  by_cases q : s ∈ placesL zs
  · rw [decide_eq_true q, key.mp q]
  · rw [decide_eq_false q]
    cases e : slabOk zs s with
    | false => rfl
    | true => exact absurd (key.mpr e) q
theorem okD_places (W : List Slab) : okD (.list (W.map placeD)) = true := by
  obtain ⟨h1, h2⟩ := places_plain W
  simp [okD, SeqAt.shaped, PyData.hasDict, PyData.canLay0, PyData.depth, h1, places_lay W]
  omega
theorem ok_inP (W : List Slab) (s : Slab) : (okD (placeD s) && okD (.list (W.map placeD))) = true := by
  rw [okD_places, Bool.and_true]
  simp [okD, SeqAt.shaped, PyData.hasDict, PyData.hasDictAll, PyData.canLay0, PyData.canLayAll0, PyData.depth, PyData.depthAll]
theorem eqv_cellsL : ∀ a b : List Cell, PyData.eqv (.list (a.map cellD)) (.list (b.map cellD)) = decide (a = b) := by
  have all : ∀ a b : List Cell, PyData.eqvAll (a.map cellD) (b.map cellD) = decide (a = b) := by
    intro a
    induction a with
    | nil => intro b; cases b <;> simp [PyData.eqvAll]
    | cons x a ih =>
      intro b
      cases b with
      | nil => simp [PyData.eqvAll]
      | cons y b =>
        rw [List.map_cons, List.map_cons, PyData.eqvAll, ih, eqv_cell]
        by_cases h : x = y <;> by_cases g : a = b <;> simp [h, g]
  intro a b
  rw [PyData.eqv, all]
theorem whole_iff {zs : List Cell} {W : List Slab} (hr : rising zs = true) (nd : (cellsL W).Nodup) (hW : ∀ s ∈ W, slabOk zs s = true) : decide ((cellsL W).mergeSort leC = zs) = decide (2 * W.length = zs.length) := by
  have sub : ∀ z ∈ cellsL W, z ∈ zs := fun z hz => by
    obtain ⟨s, hs, h⟩ := List.mem_flatMap.mp hz
    have k := hW s hs
    unfold slabOk at k
    simp only [Bool.and_eq_true, decide_eq_true_eq] at k
    simp only [List.mem_cons, List.not_mem_nil, or_false] at h
    rcases h with rfl | rfl
    · exact k.1.1.1
    · exact k.1.1.2
  have l := cellsL_len W
  by_cases q : 2 * W.length = zs.length
  · rw [decide_eq_true q]
    refine decide_eq_true (sort_is nd hr fun z => ⟨sub z, fun hz => Classical.byContradiction fun n => ?_⟩)
    have := erase_le nd sub hz n
    omega
  · rw [decide_eq_false q]
    refine decide_eq_false fun e => q ?_
    have := congrArg List.length e
    rw [(List.mergeSort_perm _ _).length_eq] at this
    omega
section
variable {P : Program} {w : World} {K : PySem.W.Frag} {mg : Str → Option Value} {base : Heap}
def dfPlacesOf : DF := fun as Q => ∃ zs : List Cell, as = [.d (.tuple (zs.map cellD))] ∧ zs.length ≤ 40 ∧ Q (.own ((placesL zs).map placeD))
theorem dfPlacesOf_len : ∀ as Q, dfPlacesOf as Q → as.length = 1 := by
  rintro as Q ⟨zs, rfl, _⟩
  rfl
def dfNearOf : DF := fun as Q => ∃ (zs : List Cell) (z : Cell), as = [.d (cellD z), .d (.tuple (zs.map cellD))] ∧ Q (.own ((nearL zs z).map cellD))
theorem dfNearOf_len : ∀ as Q, dfNearOf as Q → as.length = 2 := by
  rintro as Q ⟨zs, z, rfl, _⟩
  rfl
theorem GZ_law_beside (T : Txt K mg) : Good P w K mg base "_law_beside" s__law_beside 1 ["cell", "cells"] dfNearOf := by
  refine good_mk (N := ["cell", "cells", "row", "column", "one"]) T.f__law_beside sc__law_beside (fun _ _ _ _ _ _ us hl => match us, hl with | [_, _], _ => rfl) dfNearOf_len (fun f cdv A outer s H E hr =>
    (dss_cons (ds_asg (de_name 0) (dg_tup (n := 2) rfl (dgs_cons (dg_name 2 sc__law_beside.nd) (dgs_cons (dg_name 3 sc__law_beside.nd) dgs_nil))))
  (dss_one (ds_retO (do_lc (own := [("one", 4)]) rfl sc__law_beside.nd (di_seq (de_tup (dl_cons (de_tup (dl_cons (de_op od_sub (de_name 2) de_int) (dl_cons (de_name 3) dl_nil))) (dl_cons (de_tup (dl_cons (de_name 2) (dl_cons (de_op od_sub (de_name 3) de_int) dl_nil))) (dl_cons (de_tup (dl_cons (de_name 2) (dl_cons (de_op od_add (de_name 3) de_int) dl_nil))) (dl_cons (de_tup (dl_cons (de_op od_add (de_name 2) de_int) (dl_cons (de_name 3) dl_nil))) dl_nil)))))) (blkOk_by (own := [("one", 4)]) (by rfl)) (fun _ _ _ _ _ => (dg_name 4 sc__law_beside.nd)) (fun _ _ _ _ _ => (dts_one (dc_cmp (od_in hr.u5) (de_name 4) (de_name 1) (by rfl)))) (fun _ _ _ _ _ => (de_name 4)) (by decide)))))) ?_
  rintro as Q ⟨zs, z, rfl, h⟩
  walk_at "dl"
  refine lcD_fm cellD (fun w => decide (w ∈ zs)) cellD (besideL z) [] (fun w hw Q hq => ?_) (fun w hw _ Q hq => ?_) (by simp [besideL]) h
  · walk_at "dl"
    refine ⟨ok_in zs w, ?_⟩
    rw [any_cells]
    exact hq
  · walk_at "dl"
    exact hq
def lawB (zs : List Cell) (v : PyData) (b : Bool) : Bool := if b then laysB zs v else rightS zs v
def dfLawLays : DF := fun as Q => ∃ (zs : List Cell) (v : PyData) (b : Bool), as = [.d (.tuple (zs.map cellD)), .d v, .d (.bool b)] ∧ (LotOk zs ∧ Few v) ∧ Q (.dat (.bool (lawB zs v b)))
theorem dfLawLays_len : ∀ as Q, dfLawLays as Q → as.length = 3 := by
  rintro as Q ⟨zs, v, b, rfl, _⟩
  rfl
end
end K25



namespace K25
open PySem PySem.Spec PyProof.Rows L2 DL TL
open PySem.W (AllAlike Sortable dataLe)
local macro_rules | `(tactic| walk_at "dl") => `(tactic| simp only [dSeq, dRet, dRetO, dRetN, dIsi, dName, dAndV, dOrV, dNotV, dAnd, dOr, dNot, dTr, dIf, dIfS, dNext, dNever, dBreak, dCont, dExpr, dSet, dOwn, dAsg, gSet, gTupD, gsCons, gsNil, dCall, dCallK, dACons, dANil, dAPot, dOp, dCB, dCons, dNil, dTup, dLst, dChain, gLen, gIx, gAbs, gInt, gTwo, gTuple, gList, dSl, gSl, dPart, dNoPart, dNeg, dRevT, startD, argSl, List.map_cons, List.map_nil, List.cons_append, List.nil_append, List.append_nil, List.getElem?_cons_zero, List.getElem?_cons_succ, List.set_cons_zero, List.set_cons_succ, List.length_cons, List.length_nil, List.replicate_succ, List.replicate_zero, dK, gCmpI, gLt, gI, gAdd, gMul, gEq, gIs, gIn, Res.data, oData, oLst, oLc, oList, oListRg, iSeq, iRg1, iRg2, iZip_, iEnumD, wipeD, dYes, dPotIx, dPotSet, dPeek, cPeek, dFor, dDat, dFreeze, dInSet, dSetSet, dSortSet, dPeekT, cPeekT, dTmpNew, dND, dNO, dNNil, dSpoil, oMul, dIxOwn, dInDic, dDicNew, dPar, dPar3, zD, zO, zC, xD, xO, RZ.sl, Res.sl, dDictP, dAppend, dExtend, dAugI, dTupOwn, oCall, dJoin, oSplit, iSig, iEnumSD, gInS, dPopNew, dPotDiv, dCallPot, dRevL, Nat.reduceAdd, Nat.zero_add, Nat.reduceLeDiff, true_and, and_true, Bool.false_eq_true, if_true, if_false])
local macro_rules | `(tactic| walk_at "dv") => `(tactic| simp [isTup, isStr, DL.isInt, DL.isBool, isList, okD_int, okD_bool, okD_none, eqv_int, at0, at1, isNone])
section
variable {P : Program} {w : World} {K : PySem.W.Frag} {mg : Str → Option Value} {base : Heap}
mutual
def small : PyData → Bool
  | .none | .bool _ => true
  | .int i => decide (-99 ≤ i) && decide (i ≤ 99)
  | .str x => PyData.strOk x && decide ((reprText x).length ≤ 40)
  | .list xs => smallAll xs
  | .tuple xs => smallAll xs
  | .dict _ => false
def smallAll : List PyData → Bool
  | [] => true
  | x :: xs => small x && smallAll xs
end
mutual
def wgt : PyData → Nat
  | .list xs => 1 + wgtAll xs
  | .tuple xs => 1 + wgtAll xs
  | _ => 1
def wgtAll : List PyData → Nat
  | [] => 0
  | x :: xs => wgt x + wgtAll xs
end
mutual
/-- tuples that are not empty, down to the leaves -/
def tree : PyData → Bool
  | .tuple xs => !xs.isEmpty && treeAll xs
  | .list _ => false
  | .dict _ => false
  | _ => true
def treeAll : List PyData → Bool
  | [] => true
  | x :: xs => tree x && treeAll xs
end
theorem smallAll_iff : ∀ {ds : List PyData}, smallAll ds = true ↔ ∀ d ∈ ds, small d = true
  | [] => by simp [smallAll]
  | d :: ds => by simp [smallAll, smallAll_iff (ds := ds)]
theorem treeAll_iff : ∀ {ds : List PyData}, treeAll ds = true ↔ ∀ d ∈ ds, tree d = true
  | [] => by simp [treeAll]
  | d :: ds => by simp [treeAll, treeAll_iff (ds := ds)]
theorem depthAll_iff {n : Nat} : ∀ {ds : List PyData}, PyData.depthAll ds ≤ n ↔ ∀ d ∈ ds, d.depth ≤ n
  | [] => by simp [PyData.depthAll]
  | d :: ds => by
    have h := depthAll_iff (n := n) (ds := ds)
    simp only [PyData.depthAll, List.mem_cons, forall_eq_or_imp, ← h]
    omega
theorem wgtAll_app : ∀ (xs ys : List PyData), wgtAll (xs ++ ys) = wgtAll xs + wgtAll ys
  | [], ys => by simp [wgtAll]
  | x :: xs, ys => by simp only [List.cons_append, wgtAll, wgtAll_app xs ys]; omega
theorem wgtAll_take (k : Nat) (ds : List PyData) : wgtAll (ds.take k) ≤ wgtAll ds := by
  have h := wgtAll_app (ds.take k) (ds.drop k)
  rw [List.take_append_drop] at h
  omega
theorem wgtAll_drop (k : Nat) (ds : List PyData) : wgtAll (ds.drop k) ≤ wgtAll ds := by
  have h := wgtAll_app (ds.take k) (ds.drop k)
  rw [List.take_append_drop] at h
  omega
theorem wgtAll_len : ∀ ds : List PyData, ds.length ≤ wgtAll ds
  | [] => Nat.le_refl _
  | d :: ds => by
    have h := wgtAll_len ds
    have : 1 ≤ wgt d := by cases d <;> simp [wgt]
    simp only [List.length_cons, wgtAll]
    omega
theorem wgtAll_rev (ds : List PyData) : wgtAll ds.reverse = wgtAll ds := by
  induction ds with
  | nil => rfl
  | cons d ds ih => rw [List.reverse_cons, wgtAll_app, ih]; simp only [wgtAll]; omega
theorem wgtAll_rep (k : Nat) (ds : List PyData) : wgtAll (List.replicate k ds).flatten = k * wgtAll ds := by
  induction k with
  | zero => simp [wgtAll]
  | succ k ih => rw [List.replicate_succ, List.flatten_cons, wgtAll_app, ih, Nat.succ_mul]; omega
/-- small, of a depth, of a weight -/
structure Bd (n k : Nat) (v : PyData) : Prop where
  s : small v = true
  d : v.depth ≤ n
  w : wgt v ≤ k
structure Bds (n k : Nat) (vs : List PyData) : Prop where
  s : ∀ v ∈ vs, small v = true
  d : ∀ v ∈ vs, v.depth ≤ n
  w : wgtAll vs ≤ k
theorem Bds.tup {n k : Nat} {ds : List PyData} (h : Bds n k ds) : Bd (n + 1) (k + 1) (.tuple ds) :=
  ⟨by simp only [small]; exact smallAll_iff.mpr h.s, by have := depthAll_iff.mpr h.d; simp only [PyData.depth]; omega, by have := h.w; simp only [wgt]; omega⟩
theorem Bds.lst {n k : Nat} {ds : List PyData} (h : Bds n k ds) : Bd (n + 1) (k + 1) (.list ds) :=
  ⟨by simp only [small]; exact smallAll_iff.mpr h.s, by have := depthAll_iff.mpr h.d; simp only [PyData.depth]; omega, by have := h.w; simp only [wgt]; omega⟩
theorem Bds.app {n k j : Nat} {xs ys : List PyData} (h : Bds n k xs) (g : Bds n j ys) : Bds n (k + j) (xs ++ ys) :=
  ⟨fun d hd => (List.mem_append.mp hd).elim (h.s d) (g.s d), fun d hd => (List.mem_append.mp hd).elim (h.d d) (g.d d), by have := h.w; have := g.w; rw [wgtAll_app]; omega⟩
theorem Bds.sub {n k : Nat} {xs ys : List PyData} (h : Bds n k xs) (g : ∀ d ∈ ys, d ∈ xs) (w : wgtAll ys ≤ wgtAll xs) : Bds n k ys :=
  ⟨fun d hd => h.s d (g d hd), fun d hd => h.d d (g d hd), by have := h.w; omega⟩
theorem Bds.cut {n k : Nat} {xs : List PyData} (h : Bds n k xs) (lo hi : Option Int) : Bds n k (DL.cutD xs lo hi) := by
  unfold DL.cutD
  refine h.sub (fun d hd => List.mem_of_mem_drop (List.mem_of_mem_take hd)) ?_
  exact Nat.le_trans (wgtAll_take _ _) (wgtAll_drop _ _)
theorem Bd.mono {n k n' k' : Nat} {d : PyData} (h : Bd n k d) (hn : n ≤ n') (hk : k ≤ k') : Bd n' k' d := ⟨h.s, Nat.le_trans h.d hn, Nat.le_trans h.w hk⟩
theorem Bds.mono {n k n' k' : Nat} {d : List PyData} (h : Bds n k d) (hn : n ≤ n') (hk : k ≤ k') : Bds n' k' d := ⟨h.s, fun d hd => Nat.le_trans (h.d d hd) hn, Nat.le_trans h.w hk⟩
theorem Bds.one {n k : Nat} {d : PyData} (h : Bd n k d) : Bds n k [d] := ⟨by simp [h.s], by simp [h.d], by have := h.w; simp only [wgtAll]; omega⟩
theorem Bd.of_tup {n k : Nat} {ds : List PyData} (h : Bd n k (.tuple ds)) : Bds (n - 1) (k - 1) ds ∧ 1 ≤ n ∧ 1 ≤ k := by
  obtain ⟨h1, h2, h3⟩ := h
  simp only [small] at h1
  simp only [PyData.depth] at h2
  simp only [wgt] at h3
  exact ⟨⟨smallAll_iff.mp h1, depthAll_iff.mp (by omega), by omega⟩, by omega, by omega⟩
mutual
theorem small_lay : ∀ d : PyData, small d = true → d.hasDict = false ∧ d.canLay0 = true ∧ d.showable = true
  | .none, _ => by simp [PyData.hasDict, PyData.canLay0, PyData.showable]
  | .bool _, _ => by simp [PyData.hasDict, PyData.canLay0, PyData.showable]
  | .int i, h => by
    simp only [small, Bool.and_eq_true, decide_eq_true_eq] at h
    refine ⟨by simp [PyData.hasDict], by simp [PyData.canLay0], ?_⟩
    simp only [PyData.showable, decide_eq_true_eq]
    have b : i.natAbs < 2 ^ 7 := by omega
    by_cases z : i.natAbs = 0
    · rw [z]; decide +kernel
    · have := (Nat.log2_lt z).mpr b
      omega
  | .str x, h => by
    simp only [small, Bool.and_eq_true, decide_eq_true_eq] at h
    simp [PyData.hasDict, PyData.canLay0, PyData.showable, h.1]
  | .list xs, h => by
    have := small_layAll xs (by simpa only [small] using h)
    simpa [PyData.hasDict, PyData.canLay0, PyData.showable] using this
  | .tuple xs, h => by
    have := small_layAll xs (by simpa only [small] using h)
    simpa [PyData.hasDict, PyData.canLay0, PyData.showable] using this
  | .dict _, h => by simp [small] at h
theorem small_layAll : ∀ ds : List PyData, smallAll ds = true → PyData.hasDictAll ds = false ∧ PyData.canLayAll0 ds = true ∧ PyData.showableAll ds = true
  | [], _ => by simp [PyData.hasDictAll, PyData.canLayAll0, PyData.showableAll]
  | d :: ds, h => by
    simp only [smallAll, Bool.and_eq_true] at h
    have h1 := small_lay d h.1
    have h2 := small_layAll ds h.2
    simp [PyData.hasDictAll, PyData.canLayAll0, PyData.showableAll, h1, h2]
end
theorem int_len : ∀ n : Fin 201, ((toString (((n : Nat) : Int) - 99) : String) : Str).length ≤ 40 := by decide +kernel
mutual
theorem small_shown : ∀ d : PyData, small d = true → d.shown.length + 2 ≤ 50 * wgt d
  | .none, _ => by simp only [PyData.shown, wgt]; decide +kernel
  | .bool b, _ => by cases b <;> (simp only [PyData.shown, wgt]; decide +kernel)
  | .int i, h => by
    simp only [small, Bool.and_eq_true, decide_eq_true_eq] at h
    have e := int_len ⟨(i + 99).toNat, by omega⟩
    have e2 : (((i + 99).toNat : Nat) : Int) - 99 = i := by omega
    simp only [e2] at e
    simp only [PyData.shown, wgt]
    omega
  | .str x, h => by
    simp only [small, Bool.and_eq_true, decide_eq_true_eq] at h
    simp only [PyData.shown, wgt]
    omega
  | .list xs, h => by
    have h1 := small_shownAll xs (by simpa only [small] using h)
    have h2 := listText_len_le (PyData.shownAll xs)
    simp only [PyData.shown, wgt]
    omega
  | .tuple xs, h => by
    have h1 := small_shownAll xs (by simpa only [small] using h)
    have h2 := tupleText_len_le (PyData.shownAll xs)
    simp only [PyData.shown, wgt]
    omega
  | .dict _, h => by simp [small] at h
theorem small_shownAll : ∀ ds : List PyData, smallAll ds = true → ((PyData.shownAll ds).map (·.length)).sum + 2 * (PyData.shownAll ds).length ≤ 50 * wgtAll ds
  | [], _ => by simp [PyData.shownAll, wgtAll]
  | d :: ds, h => by
    simp only [smallAll, Bool.and_eq_true] at h
    have h1 := small_shown d h.1
    have h2 := small_shownAll ds h.2
    simp only [PyData.shownAll, wgtAll, List.map_cons, List.sum_cons, List.length_cons]
    omega
end
/-- the values the law asks about -/
def Vok (v : PyData) : Prop := Bd 20 6000 v
theorem Vok.okD {v : PyData} (h : Vok v) : okD v = true := by
  obtain ⟨h1, h2, _⟩ := small_lay v h.s
  have := h.d
  simp [DL.okD, SeqAt.shaped, h1, h2]
  omega
theorem Vok.repr {v : PyData} (h : Vok v) : ReprOk v := by
  obtain ⟨h1, h2, h3⟩ := small_lay v h.s
  have a := h.d
  have b := h.w
  have c := small_shown v h.s
  exact ⟨h1, h3, by omega, by omega⟩
def dfTrue : DF := fun as Q => match as with | [.p] => Q (.dat (.bool true)) | _ => False
theorem dfTrue_len : ∀ as Q, dfTrue as Q → as.length = 1 := by
  intro as Q h
  unfold dfTrue at h
  split at h
  · rfl
  · exact h.elim
theorem dfLaw_len {n : Nat} : ∀ as Q, dfLaw n as Q → as.length = 1 := by
  intro as Q h
  unfold dfLaw at h
  split at h
  · rfl
  · exact h.elim
theorem cells_bd (zs : List (Int × Int)) (hb : ∀ z ∈ zs, (0 ≤ z.1 ∧ z.1 ≤ 7) ∧ 0 ≤ z.2 ∧ z.2 ≤ 7) : Bds 1 (3 * zs.length) (zs.map cellD) := by
  refine ⟨fun d hd => ?_, fun d hd => ?_, ?_⟩
  · obtain ⟨z, hz, rfl⟩ := List.mem_map.mp hd
    have b := hb z hz
    have h1 : (decide (-99 ≤ z.1) && decide (z.1 ≤ 99)) = true := by simp; omega
    have h2 : (decide (-99 ≤ z.2) && decide (z.2 ≤ 99)) = true := by simp; omega
    simp only [cellD, small, smallAll, h1, h2]
    rfl
  · obtain ⟨z, hz, rfl⟩ := List.mem_map.mp hd
    simp [PyData.depth, PyData.depthAll]
  · clear hb
    induction zs with
    | nil => simp [wgtAll]
    | cons z zs ih => simp only [List.map_cons, wgtAll, wgt, List.length_cons]; omega
theorem rising_lt : ∀ {ws : List (Int × Int)}, ws.Pairwise cellLt → rising ws = true
  | [], _ => rfl
  | [_], _ => rfl
  | a :: b :: r, h => by
    rw [List.pairwise_cons] at h
    have hb : cellLt a b := h.1 b (by simp)
    have lt : ltB a b = true := by
      unfold ltB
      exact decide_eq_true (show a.1 < b.1 ∨ (a.1 = b.1 ∧ a.2 < b.2) from hb)
    show (ltB a b && rising (b :: r)) = true
    rw [lt, rising_lt h.2]
    rfl
theorem eqv_nil (zs : List (Int × Int)) : PyData.eqv (.tuple (zs.map cellD)) (.tuple []) = zs.isEmpty := by
  cases zs with
  | nil => rfl
  | cons z r => simp [PyData.eqv, PyData.eqvAll]
theorem cell_bd {z : Int × Int} (b : (0 ≤ z.1 ∧ z.1 ≤ 7) ∧ 0 ≤ z.2 ∧ z.2 ≤ 7) : Bd 1 3 (cellD z) := by
  have h := cells_bd [z] (fun y hy => by rw [List.mem_singleton.mp hy]; exact b)
  exact ⟨h.s _ (by simp), h.d _ (by simp), by simp [wgt, wgtAll]⟩
theorem pinch_small {zs : List (Int × Int)} (hb : ∀ z ∈ zs, (0 ≤ z.1 ∧ z.1 ≤ 7) ∧ 0 ≤ z.2 ∧ z.2 ≤ 7) : Bd 2 10 (pinchD (pinchOf zs)) := by
  cases e : pinchOf zs with
  | none => exact ⟨rfl, by simp [pinchD, PyData.depth], by simp [pinchD, wgt]⟩
  | some q =>
    obtain ⟨z, s, _, rfl, h1, h2, _, _⟩ := pinch_found e
    exact (((Bds.one (cell_bd (hb _ h1))).app (Bds.one (cell_bd (hb _ h2)))).tup).mono (by omega) (by omega)
theorem pairwise_lt {ws : List Cell} (h : ws.Pairwise cellLt) : rising ws = true := rising_lt h
theorem bd_floor {zs : List Cell} (hb : ∀ z ∈ zs, (0 ≤ z.1 ∧ z.1 ≤ 7) ∧ 0 ≤ z.2 ∧ z.2 ≤ 7) : Bd 3 (3 * zs.length + 3) (floorD zs) := by
  have sf : Bd 0 1 (.str "floor") := ⟨by decide +kernel, by simp [PyData.depth], by simp [wgt]⟩
  exact (((Bds.one (sf.mono (Nat.zero_le 2) (Nat.le_refl 1))).app (Bds.one (cells_bd zs hb).tup)).tup).mono (Nat.le_refl _) (by omega)
end
end K25



/-! Lacks: walked. -/
namespace K25
open PySem PySem.Spec PyProof.Rows L2 DL
open PySem.W (AllAlike Sortable dataLe)
local macro_rules | `(tactic| walk_at "dl") => `(tactic| simp only [dSeq, dRet, dRetO, dRetN, dIsi, dName, dAndV, dOrV, dNotV, dAnd, dOr, dNot, dTr, dIf, dIfS, dNext, dNever, dBreak, dCont, dExpr, dSet, dOwn, dAsg, gSet, gTupD, gsCons, gsNil, dCall, dCallK, dACons, dANil, dAPot, dOp, dCB, dCons, dNil, dTup, dLst, dChain, gLen, gIx, gAbs, gInt, gTwo, gTuple, gList, dSl, gSl, dPart, dNoPart, dNeg, dRevT, startD, argSl, List.map_cons, List.map_nil, List.cons_append, List.nil_append, List.append_nil, List.getElem?_cons_zero, List.getElem?_cons_succ, List.set_cons_zero, List.set_cons_succ, List.length_cons, List.length_nil, List.replicate_succ, List.replicate_zero, dK, gCmpI, gLt, gI, gAdd, gMul, gEq, gIs, gIn, Res.data, oData, oLst, oLc, oList, oListRg, iSeq, iRg1, iRg2, iZip_, iEnumD, wipeD, dYes, dPotIx, dPotSet, dPeek, cPeek, dFor, dDat, dFreeze, dInSet, dSetSet, dSortSet, dPeekT, cPeekT, dTmpNew, dND, dNO, dNNil, dSpoil, oMul, dIxOwn, dInDic, dDicNew, dPar, dPar3, zD, zO, zC, xD, xO, RZ.sl, Res.sl, dDictP, dAppend, dExtend, dAugI, dTupOwn, oCall, dPopTo, oSorted, dSpoilAll, dGetDic, dIxDic, dInRdic, dRestDic, dPut2, dRNil, dRCons, dRDic, dCallR, dCallM, gLenD, gIsB, startR, startM, ar2Sl, dPar2z, dLenSet, gInDD, dForPop, dExtA, dSeqQ, gLtA, gSortA, gSort1, dJoin, oSplit, iSig, iEnumSD, gInS, dPopNew, dPotDiv, dCallPot, dRevL, Nat.reduceAdd, Nat.zero_add, Nat.reduceLeDiff, true_and, and_true, Bool.false_eq_true, if_true, if_false])
local macro_rules | `(tactic| walk_at "dv") => `(tactic| simp [isTup, isStr, DL.isInt, DL.isBool, isList, okD_int, okD_bool, okD_none, eqv_int, at0, at1, isNone])
/-- all neighbours of a lot's cells -/
def nbL (zs S : List Cell) : List Cell := zs.filter fun o => S.any fun s => decide (o ∈ nearL zs s)
theorem mem_nbL {zs S : List Cell} {o : Cell} : o ∈ nbL zs S ↔ ∃ s ∈ S, o ∈ nearL zs s := by
  unfold nbL
  rw [List.mem_filter]
  simp only [List.any_eq_true, decide_eq_true_eq]
  exact ⟨fun h => h.2, fun ⟨s, hs, h⟩ => ⟨(mem_near.mp h).2, s, hs, h⟩⟩
/-- a lot on the board -/
structure LotOk8 (zs : List Cell) : Prop where
  r : rising zs = true
  b : ∀ z ∈ zs, (0 ≤ z.1 ∧ z.1 ≤ 7) ∧ 0 ≤ z.2 ∧ z.2 ≤ 7
  l : zs.length ≤ 40
structure Come (zs : List Cell) (M : Tb) (bs ws : List Cell) : Prop where
  r : rising ws = true
  z : ∀ w ∈ ws, w ∈ zs
  b : ∀ w ∈ bs, w ∈ ws
  c : ∀ h ∈ ws, ∀ o ∈ nearL zs h, ∀ h', look M o = some h' → h' ∈ ws
  m : ∀ S : Cell → Prop, (∀ w ∈ bs, S w) → (∀ h, S h → ∀ o ∈ nearL zs h, ∀ h', look M o = some h' → S h') → ∀ w ∈ ws, S w
section
variable {P : Program} {w : World} {K : PySem.W.Frag} {mg : Str → Option Value} {base : Heap}
def dfCome : DF := fun as Q => ∃ (zs : List Cell) (M : Tb) (bs : List Cell), as = [.d (.tuple (zs.map cellD)), .d (dictD (mKV M)), .d (.list (bs.map cellD))] ∧ (zs.Nodup ∧ zs.length ≤ 40) ∧ Mt zs M ∧ (bs.Nodup ∧ ∀ b ∈ bs, b ∈ zs) ∧ ∀ ws, Come zs M bs ws → Q (.dat (.tuple (ws.map cellD)))
theorem dfCome_len : ∀ as Q, dfCome as Q → as.length = 3 := by
  rintro as Q ⟨zs, M, bs, rfl, _⟩
  rfl
theorem G_come_to (T : Txt K mg) : Good P w K mg base "come_to" s_come_to 3 ["lot", "partner", "begins"] dfCome := by
  have G_near_in := G_near_in (P := P) (w := w) (base := base) T
  refine good_mk (N := ["lot", "partner", "begins", "near", "found", "line", "other"]) T.f_come_to sc_come_to (fun _ _ _ _ _ _ us hl => match us, hl with | [_, _, _], _ => rfl) dfCome_len (fun f cdv A outer s H E hr =>
    (dss_cons (ds_par3 3 4 5 rfl sc_come_to.nd (dz_d (de_callG G_near_in (hr.mono (by decide)) (da_cons (de_name 0) da_nil))) (dz_o (do_list T.b_list (dl_cons (de_name 2) dl_nil))) (dz_o (do_list T.b_list (dl_cons (de_name 2) dl_nil))))
  (dss_cons (ds_while PassesOwn.never (dc_peek 5 (dc_cmp (od_ne hr.u) (de_name 5) (de_lst dl_nil) (nomark _)))
  (dss_one (ds_forPop 3 5 PassesOwn.never rfl hr.u1 (dg_name 6 sc_come_to.nd)
  (dss_one (ds_if (dc_peek 4 (dc_bool (dw_and (dc_cmp (od_inDD hr.u1) (de_name 6) (de_name 1) (by rfl)) (dw_and1 (dc_cmp (od_nin hr.u5) (de_dget hr.u1 (de_name 1) (de_name 6)) (de_name 4) (by rfl))))))
  (dss_cons (ds_append 4 (de_dget hr.u1 (de_name 1) (de_name 6)))
  (dss_one (ds_append 5 (de_dget hr.u1 (de_name 1) (de_name 6)))))
  dss_nil)))))
  (dss_one (ds_freeze 4 (h := (ds_ret (de_callTy (cd_tuple) T.b_tuple (dl_cons (de_callB (cd_sorted hr.u) T.b_sorted (dl_cons (de_name 4) dl_nil)) dl_nil))))))))) ?_
  rintro as Q ⟨zs, M, bs, rfl, ⟨nd, hl⟩, mt, ⟨nb, hb⟩, h⟩
  walk_at "dl"
  refine ⟨_, zs, rfl, .inr rfl, ⟨nd, by omega⟩, ?_⟩
  simp only []
  have bl := nodup_le bs zs nb hb
  unfold dWhile
  refine ⟨fun m ρ => ∃ (fd ln : List Cell) (s6 : Sl), Du s6 ∧ (fd.Nodup ∧ (∀ x ∈ fd, x ∈ zs) ∧ ∀ b ∈ bs, b ∈ fd) ∧ (ln.Nodup ∧ ∀ x ∈ ln, x ∈ fd) ∧ m + fd.length = zs.length + ln.length ∧ (∀ h ∈ fd, h ∉ ln → ∀ o ∈ nearL zs h, ∀ h', look M o = some h' → h' ∈ fd) ∧
      (∀ S : Cell → Prop, (∀ w ∈ bs, S w) → (∀ h, S h → ∀ o ∈ nearL zs h, ∀ h', look M o = some h' → S h') → ∀ w ∈ fd, S w) ∧
      ρ = [.dat (.tuple (zs.map cellD)), .dat (dictD (mKV M)), .dat (.list (bs.map cellD)), .dat (dictD (nearKV zs)), .own (fd.map cellD), .own (ln.map cellD), s6],
    ⟨zs.length, bs, bs, .emp, .inl rfl, ⟨nb, hb, fun b h => h⟩, ⟨nb, fun b h => h⟩, rfl, fun h h1 h2 => absurd h1 h2, fun S h1 _ => h1, rfl⟩, ?_⟩
  rintro m ρ ⟨fd, ln, s6, d6, ⟨nf, fz, bf⟩, ⟨nl, lf⟩, hm, cl, mi, rfl⟩
  have fl := nodup_le fd zs nf fz
  have ll := nodup_le ln zs nl fun x hx => fz x (lf x hx)
  have nt : noTmp [.dat (.tuple (zs.map cellD)), .dat (dictD (mKV M)), .dat (.list (bs.map cellD)), .dat (dictD (nearKV zs)), .own (fd.map cellD), .own (ln.map cellD), s6] = true := nt_dat (nt_dat (nt_dat (nt_dat (nt_own (nt_own (nt_du d6 rfl))))))
  walk_at "dl"
  refine ⟨nt, by rw [(okD_cells ln).1]; exact (okD_cells []).1, ?_⟩
  have ee := eqv_cellsL ln []
  rw [List.map_nil] at ee
  rw [ee]
  by_cases le : ln = []
  · rw [decide_eq_true le]
    subst le
    simp only [Bool.not_true]
    refine ⟨nt, sort_ok fd (by omega), ?_⟩
    rw [sort_cells]
    exact h _ ⟨sorted_rising nf, fun w hw => fz w (sorted_mem.mp hw), fun w hw => sorted_mem.mpr (bf w hw), fun x hx o ho x' e => sorted_mem.mpr (cl x (sorted_mem.mp hx) (by simp) o ho x' e), fun S h1 h2 w hw => mi S h1 h2 w (sorted_mem.mp hw)⟩
  · rw [decide_eq_false le]
    simp only [Bool.not_false]
    obtain ⟨x, hx⟩ : ∃ x, x = ln.getLast le := ⟨_, rfl⟩
    have eln : ln = ln.dropLast ++ [x] := by rw [hx]; exact (List.dropLast_concat_getLast le).symm
    obtain ⟨l0, hl0⟩ : ∃ l0, l0 = ln.dropLast := ⟨_, rfl⟩
    rw [← hl0] at eln
    have xf : x ∈ fd := lf x (by rw [eln]; simp)
    have n0 : l0.Nodup ∧ x ∉ l0 := by
      rw [eln, List.nodup_append] at nl
      exact ⟨nl.1, fun h => nl.2.2 x h x (by simp) rfl⟩
    have l0f : ∀ y ∈ l0, y ∈ fd := fun y hy => lf y (by rw [eln]; simp [hy])
    have len0 : ln.length = l0.length + 1 := by rw [eln]; simp
    have elast : (ln.map cellD).getLast? = some (tupI [x.1, x.2]) := by
      rw [eln, List.map_append, List.map_cons, List.map_nil, List.getLast?_concat]; rfl
    have edrop : (ln.map cellD).dropLast = l0.map cellD := by rw [← List.map_dropLast, hl0]
    refine ⟨nearKV zs, [x.1, x.2], .list ((nearL zs x).map cellD), ln.map cellD, rfl, rfl, elast, look_near zs zs x (fz x xf), nt, ?_⟩
    rw [edrop]
    simp only [dSeqQ, List.set_cons_succ, List.set_cons_zero]
    refine loopD_pre cellD (fun pre ρ => ∃ (fd' ln' : List Cell) (s6 : Sl), Du s6 ∧ (fd'.Nodup ∧ (∀ y ∈ fd', y ∈ zs) ∧ ∀ y ∈ fd, y ∈ fd') ∧ (ln'.Nodup ∧ (∀ y ∈ ln', y ∈ fd') ∧ x ∉ ln') ∧ fd'.length + l0.length = fd.length + ln'.length ∧ (∀ h ∈ fd', h ∉ ln' → h ≠ x → ∀ o ∈ nearL zs h, ∀ h', look M o = some h' → h' ∈ fd') ∧ (∀ o ∈ pre, ∀ h', look M o = some h' → h' ∈ fd') ∧
        (∀ S : Cell → Prop, (∀ w ∈ bs, S w) → (∀ h, S h → ∀ o ∈ nearL zs h, ∀ h', look M o = some h' → S h') → ∀ w ∈ fd', S w) ∧
        ρ = [.dat (.tuple (zs.map cellD)), .dat (dictD (mKV M)), .dat (.list (bs.map cellD)), .dat (dictD (nearKV zs)), .own (fd'.map cellD), .own (ln'.map cellD), s6]) (nearL zs x) _
      ⟨fd, l0, s6, d6, ⟨nf, fz, fun y h => h⟩, ⟨n0.1, l0f, n0.2⟩, rfl, fun y hy n1 n2 => cl y hy fun hm => by
        rw [eln] at hm
        rcases List.mem_append.mp hm with hm | hm
        · exact n1 hm
        · exact n2 (List.mem_singleton.mp hm), fun o h => (nomatch h), mi, rfl⟩ ?_ ?_
    · rintro pre o post ρ N exs ⟨fd', ln', s6, d6, ⟨nf', fz', ff⟩, ⟨nl', lf', xl⟩, hlen, cl', cp, mi', rfl⟩ hN
      have ho : o ∈ nearL zs x := by rw [exs]; simp
      have fl' := nodup_le fd' zs nf' fz'
      have ll' := nodup_le ln' zs nl' fun y hy => fz' y (lf' y hy)
      have keep : (∀ h', look M o = some h' → h' ∈ fd') → N [.dat (.tuple (zs.map cellD)), .dat (dictD (mKV M)), .dat (.list (bs.map cellD)), .dat (dictD (nearKV zs)), .own (fd'.map cellD), .own (ln'.map cellD), .dat (cellD o)] := fun q => hN _ ⟨fd', ln', _, .inr ⟨_, rfl⟩, ⟨nf', fz', ff⟩, ⟨nl', lf', xl⟩, hlen, cl', fun o' ho' => by
        rcases List.mem_append.mp ho' with ho' | ho'
        · exact cp o' ho'
        · rw [List.mem_singleton.mp ho']; exact q, mi', rfl⟩
      walk_at "dl"
      refine ⟨rfl, mKV M, [o.1, o.2], rfl, rfl, ?_⟩
      rw [look_mKV, Option.isSome_map]
      cases eM : look M o with
      | none =>
        simp only [Option.isSome_none]
        exact keep fun h' e => by rw [eM] at e; cases e
      | some y =>
        simp only [Option.isSome_some]
        have lk : lookT (mKV M) [o.1, o.2] = some (cellD y) := by rw [look_mKV, eM]; rfl
        refine ⟨mKV M, [o.1, o.2], cellD y, rfl, rfl, lk, ?_⟩
        refine ⟨ok_inL fd' y, ?_⟩
        rw [any_cells]
        by_cases hy : y ∈ fd'
        · rw [decide_eq_true hy]
          exact keep fun h' e => by rw [eM] at e; cases e; exact hy
        · rw [decide_eq_false hy]
          simp only [Bool.not_false]
          have yz : y ∈ zs := (mem_near.mp (mt.ok _ _ eM).2.1).2
          have nf2 : (fd' ++ [y]).Nodup := List.nodup_append.mpr ⟨nf', by simp, fun a ha b hb e => by rw [List.mem_singleton.mp hb] at e; exact hy (e ▸ ha)⟩
          refine ⟨mKV M, [o.1, o.2], cellD y, rfl, rfl, lk, ⟨rfl, by rw [List.length_map]; omega⟩, mKV M, [o.1, o.2], cellD y, rfl, rfl, lk, ⟨rfl, by rw [List.length_map]; omega⟩, hN _ ⟨fd' ++ [y], ln' ++ [y], .dat (cellD o), .inr ⟨_, rfl⟩, ⟨nf2, fun z hz => ?_, fun z hz => List.mem_append_left _ (ff z hz)⟩, ⟨?_, fun z hz => ?_, fun hm => ?_⟩, by simp only [List.length_append, List.length_singleton]; omega, fun z hz n1 n2 o' ho' z' e => ?_, fun o' ho' z' e => ?_, fun S s1 s2 z hz => ?_, by rw [List.map_append, List.map_append]; rfl⟩⟩
          · rcases List.mem_append.mp hz with hz | hz
            · exact fz' z hz
            · rw [List.mem_singleton.mp hz]; exact yz
          · exact List.nodup_append.mpr ⟨nl', by simp, fun a ha b hb e => by rw [List.mem_singleton.mp hb] at e; exact hy (lf' y (e ▸ ha))⟩
          · rcases List.mem_append.mp hz with hz | hz
            · exact List.mem_append_left _ (lf' z hz)
            · exact List.mem_append_right _ hz
          · rcases List.mem_append.mp hm with hm | hm
            · exact xl hm
            · exact hy (List.mem_singleton.mp hm ▸ ff x xf)
          · rcases List.mem_append.mp hz with hz | hz
            · exact List.mem_append_left _ (cl' z hz (fun q => n1 (List.mem_append_left _ q)) n2 o' ho' z' e)
            · exact absurd (List.mem_append_right _ hz) n1
          · rcases List.mem_append.mp ho' with ho' | ho'
            · exact List.mem_append_left _ (cp o' ho' z' e)
            · rw [List.mem_singleton.mp ho', eM] at e
              cases e
              simp
          · rcases List.mem_append.mp hz with hz | hz
            · exact mi' S s1 s2 z hz
            · rw [List.mem_singleton.mp hz]
              exact s2 x (mi S s1 s2 x xf) o ho y eM
    · rintro ρ ⟨fd', ln', s6, d6, ⟨nf', fz', ff⟩, ⟨nl', lf', xl⟩, hlen, cl', cp, mi', rfl⟩
      refine ⟨m - 1, by omega, fd', ln', s6, d6, ⟨nf', fz', fun b hb => ff b (bf b hb)⟩, ⟨nl', lf'⟩, by omega, fun z hz n1 o ho z' e => ?_, mi', rfl⟩
      by_cases q : z = x
      · rw [q] at ho
        exact cp o ho z' e
      · exact cl' z hz n1 q o ho z' e
def bareOf (zs : List Cell) (M : Tb) (c : Bool) : List Cell := zs.filter fun z => (dark z == c) && !(look M z).isSome
inductive LackIs (zs : List Cell) (M : Tb) : Option (List Cell) → Prop
  | dark {ws : List Cell} : bareOf zs M true ≠ [] → Come zs M (bareOf zs M true) ws → LackIs zs M (some ws)
  | light {ws : List Cell} : bareOf zs M true = [] → bareOf zs M false ≠ [] → Come zs M (bareOf zs M false) ws → LackIs zs M (some ws)
  | none : bareOf zs M true = [] → bareOf zs M false = [] → LackIs zs M none
def optL : Option (List Cell) → PyData
  | some ws => .tuple (ws.map cellD)
  | none => .none
def dfLackBy : DF := fun as Q => ∃ zs : List Cell, as = [.d (.tuple (zs.map cellD))] ∧ (zs.Nodup ∧ zs.length ≤ 40) ∧ ∀ M r, Mt zs M → (∀ z ∈ zs, dark z = true → (look M z).isSome = true ∨ Stuck zs M z) → LackIs zs M r → Q (.dat (optL r))
theorem dfLackBy_len : ∀ as Q, dfLackBy as Q → as.length = 1 := by
  rintro as Q ⟨zs, rfl, _⟩
  rfl
theorem G_lack_by (T : Txt K mg) : Good P w K mg base "lack_by" s_lack_by 4 ["lot"] dfLackBy := by
  have G_is_dark := G_is_dark (P := P) (w := w) (base := base) T
  have G_most_pairs := G_most_pairs (P := P) (w := w) (base := base) T
  have G_come_to := G_come_to (P := P) (w := w) (base := base) T
  refine good_mk (N := ["lot", "partner", "colour", "begins", "cell"]) T.f_lack_by sc_lack_by (fun _ _ _ _ _ _ us hl => match us, hl with | [_], _ => rfl) dfLackBy_len (fun f cdv A outer s H E hr =>
    (dss_cons (ds_set 1 sc_lack_by.nd (de_callG G_most_pairs (hr.mono (by decide)) (da_cons (de_name 0) da_nil)))
  (dss_cons (ds_for PassesOwn.never rfl (di_seq (de_tup (dl_cons de_bl (dl_cons de_bl dl_nil)))) (dg_name 2 sc_lack_by.nd)
  (dss_cons (ds_dat 3 (ds_setLc (own := [("cell", 4)]) 3 rfl sc_lack_by.nd (di_seq (de_name 0)) (blkOk_by (own := [("cell", 4)]) (by rfl)) (fun _ _ _ _ _ => (dg_name 4 sc_lack_by.nd)) (fun _ _ _ _ _ => (dts_one (dc_bool (dw_and (dc_cmp (od_eq hr.u) (de_callG G_is_dark (hr.mono (by decide)) (da_cons (de_name 4) da_nil)) (de_name 2) (nomark _)) (dw_and1 (dc_cmp (od_ninDD hr.u1) (de_name 4) (de_name 1) (by rfl))))))) (fun _ _ _ _ _ => (de_name 4)) (by decide) (sw_true rfl rfl rfl (by decide +kernel))))
  (dss_one (ds_if (dc_cmp (od_ne hr.u) (de_name 3) (de_lst dl_nil) (nomark _))
  (dss_one (ds_ret (de_callG G_come_to (hr.mono (by decide)) (da_cons (de_name 0) (da_cons (de_name 1) (da_cons (de_name 3) da_nil))))))
  dss_nil))))
  (dss_one (ds_ret de_non))))) ?_
  rintro as Q ⟨zs, rfl, ⟨nd, hl⟩, h⟩
  have bz : ∀ {M : Tb} {c : Bool}, (bareOf zs M c).Nodup ∧ ∀ b ∈ bareOf zs M c, b ∈ zs := fun {M c} => ⟨nd.filter _, fun b hb => (List.mem_filter.mp hb).1⟩
  walk_at "dl"
  refine ⟨_, zs, rfl, .inr rfl, nd, hl, fun M mt hM => ?_⟩
  have h := fun r => h M r mt hM
  simp only []
  have comp : ∀ (c : Bool) (s3 : Sl) (Q2 : List PyData → Prop), Q2 ((bareOf zs M c).map cellD) → lcD (gSet 4)
              (dAnd (dTr (dOp (gEq false) (dCall (dfCell fun z => PyData.bool (dark z)) (dACons (dName 4) dANil)) (dName 2))) (dTr (dOp (gInDD true) (dName 4) (dName 1))))
              (dName 4) [.dat (.tuple (zs.map cellD)), .dat (dictD (mKV M)), .dat (.bool c), s3, .emp] (zs.map cellD) [] Q2 := by
    intro c s3 Q2 hQ
    refine lcD_fm cellD (fun z => (dark z == c) && !(look M z).isSome) cellD zs [] (fun x hx Q hq => ?_) (fun x hx _ Q hq => ?_) (by simp; omega) hQ
    · walk_at "dl"
      refine ⟨x, rfl, ?_⟩
      simp only []
      refine ⟨by rw [okD_bool, okD_bool]; rfl, ?_⟩
      have eb : PyData.eqv (.bool (dark x)) (.bool c) = (dark x == c) := by
        cases dark x <;> cases c <;> simp [PyData.eqv]
      rw [eb]
      cases e : dark x == c with
      | false =>
        rw [e] at hq
        exact hq
      | true =>
        rw [e] at hq
        simp only []
        refine ⟨mKV M, [x.1, x.2], rfl, rfl, ?_⟩
        rw [look_mKV, Option.isSome_map]
        exact hq
    · walk_at "dl"
      exact hq
  refine loopD_preI (fun pre ρ => ∃ s2 s3, (Du s2 ∧ Du s3) ∧ ((pre = [] ∨ pre = [.bool true] ∧ bareOf zs M true = []) ∨ pre = [.bool true, .bool false] ∧ bareOf zs M true = [] ∧ bareOf zs M false = []) ∧ ρ = [.dat (.tuple (zs.map cellD)), .dat (dictD (mKV M)), s2, s3, .emp]) [.bool true, .bool false] _
    ⟨.emp, .emp, ⟨.inl rfl, .inl rfl⟩, .inl (.inl rfl), rfl⟩ ?_ ?_
  · rintro pre d post ρ N exs ⟨s2, s3, ⟨d2, d3⟩, hp, rfl⟩ hN
    have come : ∀ c : Bool, d = .bool c → (∀ ws, bareOf zs M c ≠ [] → Come zs M (bareOf zs M c) ws → Q (.dat (.tuple (ws.map cellD)))) → (bareOf zs M c = [] → N [.dat (.tuple (zs.map cellD)), .dat (dictD (mKV M)), .dat d, .dat (.list []), .emp]) → (dSeq
        (dDat 3 (dOwn 3 (oLc (iSeq (dName 0)) (gSet 4)
              (dAnd (dTr (dOp (gEq false) (dCall (dfCell fun z => PyData.bool (dark z)) (dACons (dName 4) dANil)) (dName 2))) (dTr (dOp (gInDD true) (dName 4) (dName 1))))
              (dName 4) [4])))
        (dIfS (dTr (dOp (gEq true) (dName 3) (dLst dNil))) (dRet (dCall dfCome (dACons (dName 0) (dACons (dName 1) (dACons (dName 3) dANil))))) dNext))
        { nx := N, rt := Q, bk := dRet (dK PyData.none) { nx := fun x => Q (Res.dat PyData.none), rt := Q }, ct := N } [.dat (.tuple (zs.map cellD)), .dat (dictD (mKV M)), .dat d, s3, .emp] := by
      rintro c rfl h1 h2
      walk_at "dl"
      refine comp c s3 _ ?_
      refine ⟨rfl, by rw [(okD_cells _).1]; exact (okD_cells []).1, ?_⟩
      have ee := eqv_cellsL (bareOf zs M c) []
      rw [List.map_nil] at ee
      rw [ee]
      by_cases e : bareOf zs M c = []
      · rw [decide_eq_true e, e]
        exact h2 e
      · rw [decide_eq_false e]
        exact ⟨zs, M, bareOf zs M c, rfl, ⟨nd, hl⟩, mt, bz, fun ws hw => h1 ws e hw⟩
    rcases hp with (rfl | ⟨rfl, e1⟩) | ⟨rfl, e1, e2⟩
    · simp only [List.nil_append, List.cons.injEq] at exs
      obtain ⟨rfl, rfl⟩ := exs
      exact come true rfl (fun ws ne hw => h _ (.dark ne hw)) fun e => hN _ ⟨_, _, ⟨.inr ⟨_, rfl⟩, .inr ⟨_, rfl⟩⟩, .inl (.inr ⟨rfl, e⟩), rfl⟩
    · simp only [List.cons_append, List.nil_append, List.cons.injEq, true_and] at exs
      obtain ⟨rfl, rfl⟩ := exs
      exact come false rfl (fun ws ne hw => h _ (.light e1 ne hw)) fun e => hN _ ⟨_, _, ⟨.inr ⟨_, rfl⟩, .inr ⟨_, rfl⟩⟩, .inr ⟨rfl, e1, e⟩, rfl⟩
    · simp at exs
  · rintro ρ ⟨s2, s3, _, hp, rfl⟩
    have e : bareOf zs M true = [] ∧ bareOf zs M false = [] := by
      rcases hp with (hp | hp) | hp
      · cases hp
      · cases hp.1
      · exact hp.2
    exact h none (.none e.1 e.2)
def dfNbIn : DF := fun as Q => ∃ (zs S : List Cell), as = [.d (.tuple (zs.map cellD)), .d (.tuple (S.map cellD))] ∧ LotOk8 zs ∧ ((∀ s ∈ S, s ∈ zs) ∧ (S.flatMap fun s => nearL zs s).length < 64) ∧ Q (.dat (.tuple ((nbL zs S).map cellD)))
theorem dfNbIn_len : ∀ as Q, dfNbIn as Q → as.length = 2 := by
  rintro as Q ⟨zs, S, rfl, _⟩
  rfl
theorem GN_neighbours_in (T : Txt K mg) : Good P w K mg base "neighbours_in" s_neighbours_in 3 ["lot", "cells"] dfNbIn := by
  have G_near_in := G_near_in (P := P) (w := w) (base := base) T
  refine good_mk (N := ["lot", "cells", "near", "found", "cell"]) T.f_neighbours_in sc_neighbours_in (fun _ _ _ _ _ _ us hl => match us, hl with | [_, _], _ => rfl) dfNbIn_len (fun f cdv A outer s H E hr =>
    (dss_cons (ds_par 2 3 rfl sc_neighbours_in.nd (dx_d (de_callG G_near_in (hr.mono (by decide)) (da_cons (de_name 0) da_nil))) (dx_o (do_lst dl_nil)))
  (dss_cons (ds_for PassesOwn.never rfl (di_seq (de_name 1)) (dg_name 4 sc_neighbours_in.nd)
  (dss_one (ds_extend 3 (de_dget hr.u1 (de_name 2) (de_name 4)))))
  (dss_one (ds_freeze 3 (h := (ds_ret (de_callTy (cd_tuple) T.b_tuple (dl_cons (de_sortSet rfl hr.u T.b_set T.b_sorted (de_name 3)) dl_nil))))))))) ?_
  rintro as Q ⟨zs, S, rfl, hz, ⟨hS, sl⟩, h⟩
  walk_at "dl"
  refine ⟨_, zs, rfl, .inr rfl, ⟨rising_nodup hz.r, by have := hz.l; omega⟩, ?_⟩
  simp only []
  refine loopD_pre cellD (fun pre ρ => ∃ s4, Du s4 ∧ ρ = [.dat (.tuple (zs.map cellD)), .dat (.tuple (S.map cellD)), .dat (dictD (nearKV zs)), .own ((pre.flatMap fun s => nearL zs s).map cellD), s4]) S _ ⟨.emp, .inl rfl, rfl⟩ ?_ ?_
  · rintro pre x post ρ N exs ⟨s4, d4, rfl⟩ hN
    have xz : x ∈ zs := hS x (by rw [exs]; simp)
    have lp : (pre.flatMap fun s => nearL zs s).length + (nearL zs x).length < 64 := by
      rw [exs, List.flatMap_append, List.flatMap_cons] at sl
      simp only [List.length_append] at sl
      omega
    walk_at "dl"
    refine ⟨nearKV zs, [x.1, x.2], .list ((nearL zs x).map cellD), rfl, rfl, look_near zs zs x xz, ?_⟩
    simp only []
    refine ⟨⟨rfl, by rw [List.length_map, List.length_map]; omega⟩, hN _ ⟨.dat (cellD x), .inr ⟨_, rfl⟩, ?_⟩⟩
    rw [List.flatMap_append, List.flatMap_cons, List.flatMap_nil, List.append_nil, List.map_append]
  · rintro ρ ⟨s4, d4, rfl⟩
    walk_at "dl"
    refine ⟨nt_dat (nt_dat (nt_dat (nt_own (nt_du d4 rfl)))), S.flatMap fun s => nearL zs s, .inl rfl, sl, fun z hz' => ?_, fun ws pw hw => ?_⟩
    · obtain ⟨s, hs, hn⟩ := List.mem_flatMap.mp hz'
      have := hz.b z (mem_near.mp hn).2
      omega
    · have e : ws = nbL zs S := rising_ext (pairwise_lt pw) (rising_filter hz.r _) fun z => by
        rw [hw, List.mem_flatMap]
        exact mem_nbL.symm
      rw [e]
      exact h
end
end K25



/-! Lots of a lot, their sizes: walked, for any values. -/
namespace K25
open PySem PySem.Spec PyProof.Rows L2 DL
open PySem.W (AllAlike Sortable dataLe)
local macro_rules | `(tactic| walk_at "dl") => `(tactic| simp only [dSeq, dRet, dRetO, dRetN, dIsi, dName, dAndV, dOrV, dNotV, dAnd, dOr, dNot, dTr, dIf, dIfS, dNext, dNever, dBreak, dCont, dExpr, dSet, dOwn, dAsg, gSet, gTupD, gsCons, gsNil, dCall, dCallK, dACons, dANil, dAPot, dOp, dCB, dCons, dNil, dTup, dLst, dChain, gLen, gIx, gAbs, gInt, gTwo, gTuple, gList, dSl, gSl, dPart, dNoPart, dNeg, dRevT, startD, argSl, List.map_cons, List.map_nil, List.cons_append, List.nil_append, List.append_nil, List.getElem?_cons_zero, List.getElem?_cons_succ, List.set_cons_zero, List.set_cons_succ, List.length_cons, List.length_nil, List.replicate_succ, List.replicate_zero, dK, gCmpI, gLt, gI, gAdd, gMul, gEq, gIs, gIn, Res.data, oData, oLst, oLc, oList, oListRg, iSeq, iRg1, iRg2, iZip_, iEnumD, wipeD, dYes, dPotIx, dPotSet, dPeek, cPeek, dFor, dDat, dFreeze, dInSet, dSetSet, dSortSet, dPeekT, cPeekT, dTmpNew, dND, dNO, dNNil, dSpoil, oMul, dIxOwn, dInDic, dDicNew, dPar, dPar3, zD, zO, zC, xD, xO, RZ.sl, Res.sl, dDictP, dAppend, dExtend, dAugI, dTupOwn, oCall, dPopTo, oSorted, dSpoilAll, dGetDic, dIxDic, dInRdic, dRestDic, dPut2, dRNil, dRCons, dRDic, dCallR, dCallM, gLenD, gIsB, startR, startM, ar2Sl, dPar2z, dLenSet, gInDD, dForPop, dExtA, dSeqQ, gLtA, gSortA, gSort1, dJoin, oSplit, iSig, iEnumSD, gInS, dPopNew, dPotDiv, dCallPot, dRevL, Nat.reduceAdd, Nat.zero_add, Nat.reduceLeDiff, true_and, and_true, Bool.false_eq_true, if_true, if_false])
local macro_rules | `(tactic| walk_at "dv") => `(tactic| simp [isTup, isStr, DL.isInt, DL.isBool, isList, okD_int, okD_bool, okD_none, eqv_int, at0, at1, isNone])
def lotS (zs : List Cell) (v : PyData) : Bool := match v with | .tuple ds => ds.all (spotIn zs) && rising (ds.filterMap asCell) | _ => false
theorem all_spots {zs : List Cell} : ∀ {ds : List PyData}, ds.all (spotIn zs) = true → ds = (ds.filterMap asCell).map cellD ∧ ∀ s ∈ ds.filterMap asCell, s ∈ zs
  | [], _ => ⟨rfl, fun s h => nomatch h⟩
  | d :: ds, h => by
    rw [List.all_cons, Bool.and_eq_true] at h
    obtain ⟨i1, i2⟩ := all_spots h.2
    have h1 := h.1
    unfold spotIn at h1
    split at h1
    · rename_i s es
      rw [List.filterMap_cons, es]
      refine ⟨by simp only [List.map_cons]; rw [← i1, asCell_some es], fun t ht => ?_⟩
      rcases List.mem_cons.mp ht with rfl | ht
      · exact of_decide_eq_true h1
      · exact i2 t ht
    · cases h1
theorem cells_back (S : List Cell) : (S.map cellD).filterMap asCell = S := by
  rw [List.filterMap_map]
  have : (asCell ∘ cellD) = some := by funext s; rfl
  rw [this, List.filterMap_some]
theorem spotIn_cell (zs : List Cell) (z : Cell) : spotIn zs (cellD z) = decide (z ∈ zs) := rfl
theorem lotS_cells (zs S : List Cell) : lotS zs (.tuple (S.map cellD)) = ((S.all fun z => decide (z ∈ zs)) && rising S) := by
  unfold lotS
  simp only []
  rw [cells_back, List.all_map]
  rfl
theorem lotS_iff {zs : List Cell} {v : PyData} : lotS zs v = true ↔ ∃ S, v = .tuple (S.map cellD) ∧ (∀ s ∈ S, s ∈ zs) ∧ rising S = true := by
  constructor
  · intro h
    unfold lotS at h
    split at h
    · rename_i ds
      rw [Bool.and_eq_true] at h
      obtain ⟨a, b⟩ := all_spots h.1
      exact ⟨_, by rw [← a], b, h.2⟩
    · cases h
  · rintro ⟨S, rfl, h1, h2⟩
    rw [lotS_cells, h2, Bool.and_true, List.all_eq_true]
    exact fun s hs => decide_eq_true (h1 s hs)
def oneCol (S : List Cell) : Bool := match S with | [] => false | s :: r => (s :: r).all fun z => dark z == dark s
def lackB (zs : List Cell) (v : PyData) : Bool := match v with
  | .tuple ds => lotS zs (.tuple ds) && (oneCol (ds.filterMap asCell) && decide ((nbL zs (ds.filterMap asCell)).length < (ds.filterMap asCell).length))
  | _ => false
theorem lackB_cells (zs S : List Cell) : lackB zs (.tuple (S.map cellD)) = (lotS zs (.tuple (S.map cellD)) && (oneCol S && decide ((nbL zs S).length < S.length))) := by
  unfold lackB
  simp only []
  rw [cells_back]
/-- few neighbours in all -/
def FewN (zs S : List Cell) : Prop := (S.flatMap fun s => nearL zs s).length < 64
theorem near_four (zs : List Cell) (z : Cell) : (nearL zs z).length ≤ 4 := Nat.le_trans (List.length_filter_le _ _) (Nat.le_refl 4)
theorem flat_four (zs : List Cell) : ∀ S : List Cell, (S.flatMap fun s => nearL zs s).length ≤ 4 * S.length
  | [] => Nat.le_refl _
  | s :: S => by
    have h := flat_four zs S
    have g := near_four zs s
    rw [List.flatMap_cons, List.length_append, List.length_cons]
    omega
theorem near_two {z : Cell} {r : List Cell} (h : rising (z :: r) = true) : (nearL (z :: r) z).length ≤ 2 := by
  have pw := rising_pw h
  rw [List.pairwise_cons] at pw
  have n : ∀ o : Cell, ltB o z = true → o ∉ z :: r := fun o ho hm => by
    rcases List.mem_cons.mp hm with rfl | hm
    · unfold ltB at ho
      have := of_decide_eq_true ho
      omega
    · have a := of_decide_eq_true (show decide _ = true from pw.1 o hm)
      have b := of_decide_eq_true (show decide _ = true from ho)
      omega
  have n1 : (z.1 - 1, z.2) ∉ z :: r := n _ (decide_eq_true (.inl (by show z.1 - 1 < z.1; omega)))
  have n2 : (z.1, z.2 - 1) ∉ z :: r := n _ (decide_eq_true (.inr ⟨rfl, by show z.2 - 1 < z.2; omega⟩))
  unfold nearL
  have e : List.filter (fun w => decide (w ∈ z :: r)) (besideL z) = List.filter (fun w => decide (w ∈ z :: r)) [(z.1, z.2 + 1), (z.1 + 1, z.2)] := by
    unfold besideL
    rw [List.filter_cons, if_neg (by rw [decide_eq_false n1]; decide), List.filter_cons, if_neg (by rw [decide_eq_false n2]; decide)]
  rw [e]
  exact List.length_filter_le _ _
theorem fewN {zs S : List Cell} (hz : rising zs = true) (hl : zs.length ≤ 16) (nd : S.Nodup) (hS : ∀ s ∈ S, s ∈ zs) : FewN zs S := by
  unfold FewN
  have l := nodup_le S zs nd hS
  have f := flat_four zs S
  by_cases q : S.length ≤ 15
  · omega
  · cases zs with
    | nil => simp only [List.length_nil] at l; omega
    | cons z r =>
      have zS : z ∈ S := Classical.byContradiction fun n => by
        have := erase_le nd hS (List.mem_cons_self ..) n
        omega
      obtain ⟨a, b, rfl⟩ := List.append_of_mem zS
      have fa := flat_four (z :: r) a
      have fb := flat_four (z :: r) b
      have ft := near_two hz
      rw [List.flatMap_append, List.flatMap_cons]
      simp only [List.length_append, List.length_cons] at l hl ⊢
      omega
theorem cell_right {v : PyData} (h : cellOk v = true) : ∃ z : Cell, v = cellD z := by
  unfold cellOk at h
  split at h
  · rename_i a b
    cases a <;> cases b <;> simp [isIntTo] at h
    exact ⟨(_, _), rfl⟩
  · cases h
section
variable {P : Program} {w : World} {K : PySem.W.Frag} {mg : Str → Option Value} {base : Heap}
def dfLotAny (f : List Cell → PyData → PyData) : DF := fun as Q => ∃ (zs : List Cell) (v : PyData), as = [.d (floorD zs), .d v] ∧ FloorOk zs ∧ Few v ∧ Q (.dat (f zs v))
theorem dfLotAny_len {f : List Cell → PyData → PyData} : ∀ as Q, dfLotAny f as Q → as.length = 2 := by
  rintro as Q ⟨zs, v, rfl, _⟩
  rfl
theorem GN_lot_is_right (T : Txt K mg) : Good P w K mg base "lot_is_right" s_lot_is_right 3 ["floor", "value"] (dfLotAny fun zs v => .bool (lotS zs v)) := by
  have G_cell_is_right := G_cell_is_right (P := P) (w := w) (base := base) T
  have G_are_rising := G_are_rising (P := P) (w := w) (base := base) T
  refine good_mk (N := ["floor", "value", "one"]) T.f_lot_is_right sc_lot_is_right (fun _ _ _ _ _ _ us hl => match us, hl with | [_, _], _ => rfl) dfLotAny_len (fun f cdv A outer s H E hr =>
    (dss_cons (ds_if (dc_bool (dw_or (dc_not (dc_val (de_isi kit_tuple T.b_isinstance T.b_tuple (de_name 1)))) (dw_or1 (dc_not (dc_val (de_callB (cd_all rfl) T.b_all (dl_cons (DO.de (do_lc (own := [("one", 2)]) rfl sc_lot_is_right.nd (di_seq (de_name 1)) (blkOk_by (own := [("one", 2)]) (by rfl)) (fun _ _ _ _ _ => (dg_name 2 sc_lot_is_right.nd)) (fun _ _ _ _ _ => dts_nil) (fun _ _ _ _ _ => (de_and (de_callG G_cell_is_right (hr.mono (by decide)) (da_cons (de_name 2) da_nil)) (de_one (de_cmp (od_in hr.u5) (de_name 2) (de_ix (de_name 0) de_int) (by rfl))))) (by decide))) dl_nil)))))))
  (dss_one (ds_ret de_bl))
  dss_nil)
  (dss_one (ds_ret (de_callG G_are_rising (hr.mono (by decide)) (da_cons (de_name 1) da_nil)))))) ?_
  rintro as Q ⟨zs, v, rfl, hz, hv, h⟩
  cases v with
  | tuple ds =>
    have hf := hv ds rfl
    refine dSeq_intro fun N hN => ?_
    walk_at "dl"
    simp only [isTup, Bool.not_true]
    refine lcD_map (fun d => .bool (spotIn zs d)) ds [] (fun d _ Q hq => ?_) (by simp; omega) ?_
    · walk_at "dl"
      unfold df1
      cases e : cellOk d with
      | false =>
        have e2 : spotIn zs d = false := by
          unfold spotIn
          cases ea : asCell d with
          | none => rfl
          | some z =>
            rw [asCell_some ea] at e
            refine decide_eq_false fun hm => ?_
            rw [cellOk_in hz hm] at e
            cases e
        rw [e2] at hq
        simp only [e]
        exact hq
      | true =>
        obtain ⟨z, rfl⟩ := cell_right e
        simp only [e, at1]
        refine ⟨ok_in zs z, ?_⟩
        rw [any_cells]
        exact hq
    · rw [List.nil_append]
      refine gAll_map _ _ _ ?_
      have h' : Q (.dat (.bool (ds.all (spotIn zs) && rising (ds.filterMap asCell)))) := h
      cases e : ds.all (spotIn zs) with
      | false =>
        rw [e] at h'
        exact h'
      | true =>
        rw [e] at h'
        obtain ⟨ed, hs⟩ := all_spots e
        obtain ⟨S, hS⟩ : ∃ S, S = ds.filterMap asCell := ⟨_, rfl⟩
        rw [← hS] at ed hs h'
        subst ed
        rw [List.length_map] at hf
        refine hN _ ?_
        clear hN h e hS
        walk_at "dl"
        exact ⟨S, rfl, by omega, h'⟩
  | _ => exact h
def dfZS (f : List Cell → List Cell → PyData) : DF := fun as Q => ∃ zs S : List Cell, as = [.d (.tuple (zs.map cellD)), .d (.tuple (S.map cellD))] ∧ LotOk8 zs ∧ ((∀ s ∈ S, s ∈ zs) ∧ FewN zs S) ∧ Q (.dat (f zs S))
theorem dfZS_len {f : List Cell → List Cell → PyData} : ∀ as Q, dfZS f as Q → as.length = 2 := by
  rintro as Q ⟨zs, S, rfl, _⟩
  rfl
def sizeI (zs S : List Cell) : Int := (S.length : Int) - ((nbL zs S).length : Int)
theorem G_size_in (T : Txt K mg) : Good P w K mg base "size_in" s_size_in 4 ["lot", "cells"] (dfZS fun zs S => .int (sizeI zs S)) := by
  have G_neighbours_in := GN_neighbours_in (P := P) (w := w) (base := base) T
  refine good_mk (N := ["lot", "cells"]) T.f_size_in sc_size_in (fun _ _ _ _ _ _ us hl => match us, hl with | [_, _], _ => rfl) dfZS_len (fun f cdv A outer s H E hr =>
    (dss_one (ds_ret (de_op od_sub (de_callB (cd_len) T.b_len (dl_cons (de_name 1) dl_nil)) (de_callB (cd_len) T.b_len (dl_cons (de_callG G_neighbours_in (hr.mono (by decide)) (da_cons (de_name 0) (da_cons (de_name 1) da_nil))) dl_nil)))))) ?_
  rintro as Q ⟨zs, S, rfl, hz, hS, h⟩
  have l1 := hz.l
  have l3 : (nbL zs S).length ≤ zs.length := List.length_filter_le _ _
  walk_at "dl"
  refine ⟨zs, S, rfl, hz, hS, ?_⟩
  simp only []
  rw [List.length_map, List.length_map]
  exact h
def dfLL (f : List Cell → PyData → PyData) : DF := fun as Q => ∃ (fs zs : List Cell) (v : PyData), as = [.d (floorD fs), .d (.tuple (zs.map cellD)), .d v] ∧ FloorOk fs ∧ (rising zs = true ∧ ∀ z ∈ zs, z ∈ fs) ∧ Few v ∧ Q (.dat (f zs v))
theorem dfLL_len {f : List Cell → PyData → PyData} : ∀ as Q, dfLL f as Q → as.length = 3 := by
  rintro as Q ⟨zs, S, v, rfl, _⟩
  rfl
theorem lotS_up {fs zs : List Cell} (h : ∀ z ∈ zs, z ∈ fs) {v : PyData} (n : lotS fs v = false) : lotS zs v = false := by
  cases e : lotS zs v with
  | false => rfl
  | true =>
    obtain ⟨S, rfl, h1, h2⟩ := lotS_iff.mp e
    rw [lotS_iff.mpr ⟨S, rfl, fun s hs => h s (h1 s hs), h2⟩] at n
    cases n
theorem G_lot_of_lot (T : Txt K mg) : Good P w K mg base "lot_of_lot" s_lot_of_lot 4 ["floor", "lot", "value"] (dfLL fun zs v => .bool (lotS zs v)) := by
  have G_lot_is_right := GN_lot_is_right (P := P) (w := w) (base := base) T
  refine good_mk (N := ["floor", "lot", "value", "cell"]) T.f_lot_of_lot sc_lot_of_lot (fun _ _ _ _ _ _ us hl => match us, hl with | [_, _, _], _ => rfl) dfLL_len (fun f cdv A outer s H E hr =>
    (dss_one (ds_ret (de_and (de_callG G_lot_is_right (hr.mono (by decide)) (da_cons (de_name 0) (da_cons (de_name 2) da_nil))) (de_one (de_callB (cd_all rfl) T.b_all (dl_cons (DO.de (do_lc (own := [("cell", 3)]) rfl sc_lot_of_lot.nd (di_seq (de_name 2)) (blkOk_by (own := [("cell", 3)]) (by rfl)) (fun _ _ _ _ _ => (dg_name 3 sc_lot_of_lot.nd)) (fun _ _ _ _ _ => dts_nil) (fun _ _ _ _ _ => (de_cmp (od_in hr.u5) (de_name 3) (de_name 1) (by rfl))) (by decide))) dl_nil))))))) ?_
  rintro as Q ⟨fs, zs, v, rfl, hf, hz, hv, h⟩
  have h : Q (.dat (.bool (lotS zs v))) := h
  walk_at "dl"
  refine ⟨fs, v, rfl, hf, hv, ?_⟩
  simp only []
  cases e : lotS fs v with
  | false =>
    simp only []
    rw [lotS_up hz.2 e] at h
    exact h
  | true =>
    obtain ⟨S, rfl, h1, h2⟩ := lotS_iff.mp e
    have ls := hv _ rfl
    rw [List.length_map] at ls
    simp only []
    refine lcD_m cellD (fun z => .bool (decide (z ∈ zs))) S (fun z hm Q hq => ?_) (by omega) ?_
    · walk_at "dl"
      refine ⟨ok_in zs z, ?_⟩
      rw [any_cells]
      exact hq
    · have e3 : (S.map fun z => PyData.bool (decide (z ∈ zs))) = (S.map cellD).map fun d => .bool (spotIn zs d) := by
        rw [List.map_map]; rfl
      rw [e3]
      refine gAll_map _ _ _ ?_
      rw [lotS_cells, h2, Bool.and_true] at h
      rw [List.all_map]
      exact h
theorem G_has_one_colour (T : Txt K mg) : Good P w K mg base "has_one_colour" s_has_one_colour 2 ["cells"] (dfCells (fun S => S.length ≤ 40) fun S => .bool (oneCol S)) := by
  have G_is_dark := G_is_dark (P := P) (w := w) (base := base) T
  refine good_mk (N := ["cells", "cell"]) T.f_has_one_colour sc_has_one_colour (fun _ _ _ _ _ _ us hl => match us, hl with | [_], _ => rfl) dfCells_len (fun f cdv A outer s H E hr =>
    (dss_one (ds_ret (de_and (de_cmp (od_ne hr.u) (de_name 0) (de_tup dl_nil) (nomark _)) (de_one (de_callB (cd_all rfl) T.b_all (dl_cons (DO.de (do_lc (own := [("cell", 1)]) rfl sc_has_one_colour.nd (di_seq (de_name 0)) (blkOk_by (own := [("cell", 1)]) (by rfl)) (fun _ _ _ _ _ => (dg_name 1 sc_has_one_colour.nd)) (fun _ _ _ _ _ => dts_nil) (fun _ _ _ _ _ => (de_cmp (od_eq hr.u) (de_callG G_is_dark (hr.mono (by decide)) (da_cons (de_name 1) da_nil)) (de_callG G_is_dark (hr.mono (by decide)) (da_cons (de_ix (de_name 0) de_int) da_nil)) (nomark _))) (by decide))) dl_nil))))))) ?_
  rintro as Q ⟨S, rfl, hl, h⟩
  walk_at "dl"
  refine ⟨by rw [(okD_cells _).2]; exact (okD_cells []).2, ?_⟩
  rw [eqv_nil]
  cases S with
  | nil => exact h
  | cons s r =>
    have a0 : atI (cellD s :: r.map cellD) 0 = some (cellD s) := atI_nat (j := 0) rfl
    simp only [List.isEmpty_cons, Bool.not_false]
    refine lcD_m cellD (fun z => .bool (dark z == dark s)) (s :: r) (fun z hm Q hq => ?_) (by omega) ?_
    · walk_at "dl"
      rw [a0]
      refine ⟨z, rfl, ?_⟩
      simp only []
      refine ⟨s, rfl, ?_⟩
      simp only []
      refine ⟨by rw [okD_bool, okD_bool]; rfl, ?_⟩
      have eb : PyData.eqv (.bool (dark z)) (.bool (dark s)) = (dark z == dark s) := by
        cases dark z <;> cases dark s <;> simp [PyData.eqv]
      rw [eb]
      exact hq
    · have e3 : ((s :: r).map fun z => PyData.bool (dark z == dark s)) = ((s :: r).map cellD).map fun d => .bool ((asCell d).any fun z => dark z == dark s) := by
        rw [List.map_map]; rfl
      rw [e3]
      refine gAll_map _ _ _ ?_
      rw [List.all_map]
      exact h
end
end K25



/-! Lacks: what is come to from the bare cells is the least lot of the greatest size. -/
namespace K25
open PySem PySem.Spec PyProof.Rows L2 DL
def colL (zs : List Cell) (c : Bool) : List Cell := zs.filter fun z => dark z == c
theorem mem_col {zs : List Cell} {c : Bool} {z : Cell} : z ∈ colL zs c ↔ z ∈ zs ∧ dark z = c := by simp [colL]
theorem mem_bare {zs : List Cell} {M : Tb} {c : Bool} {z : Cell} : z ∈ bareOf zs M c ↔ z ∈ zs ∧ dark z = c ∧ look M z = none := by
  unfold bareOf
  rw [List.mem_filter]
  cases e : look M z <;> simp
def frd (M : Tb) (z : Cell) : Cell := (look M z).getD z
theorem frd_eq {M : Tb} {z y : Cell} (h : look M z = some y) : frd M z = y := by unfold frd; rw [h]; rfl
theorem frd_inj {zs : List Cell} {M : Tb} (mt : Mt zs M) {x y : Cell} (hx : (look M x).isSome = true) (hy : (look M y).isSome = true) (e : frd M x = frd M y) : x = y := by
  obtain ⟨u, hu⟩ := Option.isSome_iff_exists.mp hx
  obtain ⟨v, hv⟩ := Option.isSome_iff_exists.mp hy
  rw [frd_eq hu, frd_eq hv] at e
  have p := (mt.ok _ _ hu).1
  rw [e, (mt.ok _ _ hv).1] at p
  cases p; rfl
theorem size_le {zs S : List Cell} {M : Tb} {c : Bool} (nz : zs.Nodup) (mt : Mt zs M) (nd : S.Nodup) (hS : ∀ s ∈ S, s ∈ zs ∧ dark s = c) :
    S.length ≤ (nbL zs S).length + (bareOf zs M c).length ∧ (S.length = (nbL zs S).length + (bareOf zs M c).length → (∀ b ∈ bareOf zs M c, b ∈ S) ∧ ∀ h ∈ S, ∀ o ∈ nearL zs h, ∀ h', look M o = some h' → h' ∈ S) := by
  have sp := split_len (fun z => (look M z).isSome) S
  obtain ⟨S1, e1⟩ : ∃ S1, S1 = S.filter fun z => (look M z).isSome := ⟨_, rfl⟩
  obtain ⟨S2, e2⟩ : ∃ S2, S2 = S.filter fun z => !(look M z).isSome := ⟨_, rfl⟩
  rw [← e1, ← e2] at sp
  have m1 : ∀ z, z ∈ S1 ↔ z ∈ S ∧ (look M z).isSome = true := fun z => by rw [e1, List.mem_filter]
  have m2 : ∀ z, z ∈ S2 ↔ z ∈ S ∧ look M z = none := fun z => by rw [e2, List.mem_filter]; cases look M z <;> simp
  have n1 : (S1.map (frd M)).Nodup := nodup_map (e1 ▸ nd.filter _) fun x hx y hy e => frd_inj mt ((m1 x).mp hx).2 ((m1 y).mp hy).2 e
  have s1 : ∀ o ∈ S1.map (frd M), o ∈ nbL zs S := fun o ho => by
    obtain ⟨z, hz, rfl⟩ := List.mem_map.mp ho
    obtain ⟨h1, h2⟩ := (m1 z).mp hz
    obtain ⟨u, hu⟩ := Option.isSome_iff_exists.mp h2
    rw [frd_eq hu]
    exact mem_nbL.mpr ⟨z, h1, (mt.ok _ _ hu).2.1⟩
  have n2 : S2.Nodup := e2 ▸ nd.filter _
  have s2 : ∀ b ∈ S2, b ∈ bareOf zs M c := fun b hb => by
    obtain ⟨h1, h2⟩ := (m2 b).mp hb
    exact mem_bare.mpr ⟨(hS b h1).1, (hS b h1).2, h2⟩
  have l1 := nodup_le _ _ n1 s1
  have l2 := nodup_le _ _ n2 s2
  rw [List.length_map] at l1
  refine ⟨by omega, fun e => ⟨fun b hb => Classical.byContradiction fun n => ?_, fun h hh o ho h' eh => ?_⟩⟩
  · have := erase_le n2 s2 hb fun q => n ((m2 b).mp q).1
    omega
  · have hn : o ∈ nbL zs S := mem_nbL.mpr ⟨h, hh, ho⟩
    have : o ∈ S1.map (frd M) := Classical.byContradiction fun n => by
      have := erase_le n1 s1 hn n
      rw [List.length_map] at this
      omega
    obtain ⟨s, hs, rfl⟩ := List.mem_map.mp this
    obtain ⟨h1, h2⟩ := (m1 s).mp hs
    obtain ⟨u, hu⟩ := Option.isSome_iff_exists.mp h2
    rw [frd_eq hu, (mt.ok _ _ hu).1] at eh
    cases eh
    exact h1
theorem come_col {zs ws : List Cell} {M : Tb} {c : Bool} (mt : Mt zs M) (cm : Come zs M (bareOf zs M c) ws) : ∀ w ∈ ws, w ∈ zs ∧ dark w = c := by
  refine fun w hw => ⟨cm.z w hw, cm.m (fun w => dark w = c) (fun b hb => (mem_bare.mp hb).2.1) (fun h hh o ho h' e => ?_) w hw⟩
  have a := near_dark ho
  have b := near_dark (mt.ok _ _ e).2.1
  rw [b, a, hh, Bool.not_not]
theorem come_size {zs ws : List Cell} {M : Tb} {c : Bool} (nz : zs.Nodup) (mt : Mt zs M) (cm : Come zs M (bareOf zs M c) ws) (full : ∀ w ∈ ws, ∀ o ∈ nearL zs w, (look M o).isSome = true) : ws.length = (nbL zs ws).length + (bareOf zs M c).length := by
  have cc := come_col mt cm
  have nw := rising_nodup cm.r
  have a := (size_le nz mt nw cc).1
  have fn : ∀ o ∈ nbL zs ws, (look M o).isSome = true := fun o ho => by
    obtain ⟨s, hs, h⟩ := mem_nbL.mp ho
    exact full s hs o h
  have nn : (nbL zs ws).Nodup := nz.filter _
  have nm : ((nbL zs ws).map (frd M) ++ bareOf zs M c).Nodup := by
    rw [List.nodup_append]
    refine ⟨nodup_map nn fun x hx y hy e => frd_inj mt (fn x hx) (fn y hy) e, nz.filter _, fun x hx y hy e => ?_⟩
    obtain ⟨o, ho, rfl⟩ := List.mem_map.mp hx
    obtain ⟨u, hu⟩ := Option.isSome_iff_exists.mp (fn o ho)
    rw [frd_eq hu] at e
    have q := (mem_bare.mp hy).2.2
    rw [← e, (mt.ok _ _ hu).1] at q
    cases q
  have l := nodup_le _ ws nm fun x hx => by
    rcases List.mem_append.mp hx with hx | hx
    · obtain ⟨o, ho, rfl⟩ := List.mem_map.mp hx
      obtain ⟨u, hu⟩ := Option.isSome_iff_exists.mp (fn o ho)
      obtain ⟨s, hs, h⟩ := mem_nbL.mp ho
      rw [frd_eq hu]
      exact cm.c s hs o h u hu
    · exact cm.b x hx
  rw [List.length_append, List.length_map] at l
  omega
/-- the greatest size, the least lot of it -/
def Great (zs : List Cell) (c : Bool) (best : Int) (least : List Cell) : Prop := (∀ S : List Cell, S.Sublist (colL zs c) → sizeI zs S ≤ best) ∧ 0 ≤ best ∧
  ((best = 0 ∧ least = []) ∨ (0 < best ∧ (∃ S : List Cell, S.Sublist (colL zs c) ∧ sizeI zs S = best) ∧ rising least = true ∧ ∀ z, z ∈ least ↔ ∀ S : List Cell, S.Sublist (colL zs c) → sizeI zs S = best → z ∈ S))
theorem sub_col {zs S : List Cell} {c : Bool} (hz : rising zs = true) (h : S.Sublist (colL zs c)) : rising S = true ∧ ∀ s ∈ S, s ∈ zs ∧ dark s = c := ⟨pw_rising ((rising_pw (rising_filter hz _)).sublist h), fun s hs => mem_col.mp (h.subset hs)⟩
theorem col_sub {zs S : List Cell} {c : Bool} (hz : rising zs = true) (hr : rising S = true) (h : ∀ s ∈ S, s ∈ zs ∧ dark s = c) : S.Sublist (colL zs c) := by
  have e : S = (colL zs c).filter fun z => decide (z ∈ S) := rising_ext hr (rising_filter (rising_filter hz _) _) fun z => by
    rw [List.mem_filter, mem_col, decide_eq_true_iff]
    exact ⟨fun hs => ⟨h z hs, hs⟩, fun h => h.2⟩
  rw [e]
  exact List.filter_sublist
theorem sub_size {zs S : List Cell} {M : Tb} {c : Bool} (hz : rising zs = true) (mt : Mt zs M) (h : S.Sublist (colL zs c)) : sizeI zs S ≤ (bareOf zs M c).length := by
  obtain ⟨a, b⟩ := sub_col hz h
  have := (size_le (rising_nodup hz) mt (rising_nodup a) b).1
  unfold sizeI
  omega
theorem great_zero {zs least : List Cell} {M : Tb} {c : Bool} {best : Int} (hz : rising zs = true) (mt : Mt zs M) (g : Great zs c best least) (e : bareOf zs M c = []) : best = 0 ∧ least = [] := by
  obtain ⟨g1, g2, g3⟩ := g
  rcases g3 with g3 | ⟨g3, ⟨S, hS, eS⟩, _⟩
  · exact g3
  · have := sub_size hz mt hS
    rw [e, eS] at this
    simp at this
    omega
theorem great_eq {zs least ws : List Cell} {M : Tb} {c : Bool} {best : Int} (hz : rising zs = true) (mt : Mt zs M) (g : Great zs c best least) (ne : bareOf zs M c ≠ []) (cm : Come zs M (bareOf zs M c) ws) (full : ∀ w ∈ ws, ∀ o ∈ nearL zs w, (look M o).isSome = true) : 0 < best ∧ least = ws := by
  have nz := rising_nodup hz
  have cs := come_size nz mt cm full
  have hw := col_sub hz cm.r (come_col mt cm)
  obtain ⟨g1, g2, g3⟩ := g
  have pos : 0 < (bareOf zs M c).length := List.length_pos_iff.mpr ne
  have sw : sizeI zs ws = (bareOf zs M c).length := by unfold sizeI; omega
  have b1 := g1 ws hw
  rcases g3 with g3 | ⟨g3, ⟨S, hS, eS⟩, rl, ml⟩
  · omega
  · have b2 := sub_size hz mt hS
    have eb : best = (bareOf zs M c).length := by omega
    refine ⟨g3, rising_ext rl cm.r fun z => ?_⟩
    rw [ml]
    refine ⟨fun h => h ws hw (by omega), fun h S hS eS => ?_⟩
    obtain ⟨a, b⟩ := sub_col hz hS
    have q := (size_le nz mt (rising_nodup a) b).2 (by unfold sizeI at eS; omega)
    exact cm.m (fun w => w ∈ S) q.1 q.2 z h
theorem full_dark {zs ws : List Cell} {M : Tb} (st : ∀ z ∈ zs, dark z = true → (look M z).isSome = true ∨ Stuck zs M z) (cm : Come zs M (bareOf zs M true) ws) : ∀ w ∈ ws, ∀ o ∈ nearL zs w, (look M o).isSome = true := by
  intro w hw
  have h := cm.m (fun w => ∃ L : List Cell, w ∈ L ∧ ∀ h ∈ L, ∀ o ∈ nearL zs h, ∃ h' ∈ L, look M o = some h') (fun b hb => by
    obtain ⟨h1, h2, h3⟩ := mem_bare.mp hb
    rcases st b h1 h2 with h | ⟨L, _, hb, _, cl⟩
    · rw [h3] at h; cases h
    · exact ⟨L, hb, cl⟩) (fun h ⟨L, hL, cl⟩ o ho h' e => by
    obtain ⟨y, hy, ey⟩ := cl h hL o ho
    rw [e] at ey
    cases ey
    exact ⟨L, hy, cl⟩) w hw
  obtain ⟨L, hL, cl⟩ := h
  intro o ho
  obtain ⟨y, _, ey⟩ := cl w hL o ho
  rw [ey]; rfl
theorem full_light {zs ws : List Cell} {M : Tb} (mt : Mt zs M) (e : bareOf zs M true = []) (cm : Come zs M (bareOf zs M false) ws) : ∀ w ∈ ws, ∀ o ∈ nearL zs w, (look M o).isSome = true := by
  intro w hw o ho
  have c := (come_col mt cm w hw).2
  have d := near_dark ho
  rw [c] at d
  cases q : look M o with
  | some _ => rfl
  | none =>
    have : o ∈ bareOf zs M true := mem_bare.mpr ⟨(mem_near.mp ho).2, d, q⟩
    rw [e] at this
    cases this
theorem bare_none {zs : List Cell} {M : Tb} (mt : Mt zs M) (e1 : bareOf zs M true = []) (e2 : bareOf zs M false = []) : laidB zs = true := by
  refine laidB_iff.mpr ⟨frd M, fun z hz => ?_⟩
  cases q : look M z with
  | none =>
    have : z ∈ bareOf zs M (dark z) := mem_bare.mpr ⟨hz, rfl, q⟩
    cases d : dark z <;> (rw [d] at this; first | (rw [e1] at this; cases this) | (rw [e2] at this; cases this))
  | some y =>
    obtain ⟨a, b, _⟩ := mt.ok _ _ q
    rw [frd_eq q]
    exact ⟨b, frd_eq a⟩
theorem lack_no {zs S : List Cell} (nz : zs.Nodup) (nd : S.Nodup) (hS : ∀ s ∈ S, s ∈ zs) (lt : (nbL zs S).length < S.length) : laidB zs = false := by
  refine laidB_not.mpr fun f pf => ?_
  have := nodup_le (S.map f) (nbL zs S) (nodup_map nd fun x hx y hy e => pm_inj pf x (hS x hx) y (hS y hy) e) fun o ho => by
    obtain ⟨s, hs, rfl⟩ := List.mem_map.mp ho
    exact mem_nbL.mpr ⟨s, hs, (pf s (hS s hs)).1⟩
  rw [List.length_map] at this
  omega
/-- what the law says is due -/
def dueL (b1 : Int) (l1 : List Cell) (b2 : Int) (l2 : List Cell) : Option (List Cell) := if 0 < b1 then some l1 else if 0 < b2 then some l2 else none
theorem due_lack {zs l1 l2 : List Cell} {M : Tb} {r : Option (List Cell)} {b1 b2 : Int} (hz : rising zs = true) (mt : Mt zs M) (st : ∀ z ∈ zs, dark z = true → (look M z).isSome = true ∨ Stuck zs M z) (lk : LackIs zs M r) (g1 : Great zs true b1 l1) (g2 : Great zs false b2 l2) : r = dueL b1 l1 b2 l2 := by
  unfold dueL
  cases lk with
  | dark ne cm =>
    obtain ⟨p, e⟩ := great_eq hz mt g1 ne cm (full_dark st cm)
    rw [if_pos p, e]
  | light e ne cm =>
    obtain ⟨p, q⟩ := great_eq hz mt g2 ne cm (full_light mt e cm)
    rw [if_neg (by rw [(great_zero hz mt g1 e).1]; omega), if_pos p, q]
  | none e1 e2 => rw [if_neg (by rw [(great_zero hz mt g1 e1).1]; omega), if_neg (by rw [(great_zero hz mt g2 e2).1]; omega)]
theorem due_laid {zs l1 l2 : List Cell} {b1 b2 : Int} (hz : rising zs = true) (g1 : Great zs true b1 l1) (g2 : Great zs false b2 l2) {M : Tb} {r : Option (List Cell)} (mt : Mt zs M) (st : ∀ z ∈ zs, dark z = true → (look M z).isSome = true ∨ Stuck zs M z) (lk : LackIs zs M r) : (dueL b1 l1 b2 l2).isNone = laidB zs := by
  rw [← due_lack hz mt st lk g1 g2]
  have nz := rising_nodup hz
  have no : ∀ {c : Bool} {ws : List Cell}, bareOf zs M c ≠ [] → Come zs M (bareOf zs M c) ws → (∀ w ∈ ws, ∀ o ∈ nearL zs w, (look M o).isSome = true) → laidB zs = false := fun {c ws} ne cm full => by
    have cs := come_size nz mt cm full
    have pos : 0 < (bareOf zs M c).length := List.length_pos_iff.mpr ne
    exact lack_no nz (rising_nodup cm.r) cm.z (by omega)
  cases lk with
  | dark ne cm => rw [no ne cm (full_dark st cm)]; rfl
  | light e ne cm => rw [no ne cm (full_light mt e cm)]; rfl
  | none e1 e2 => rw [bare_none mt e1 e2]; rfl
/-- a lack shows a greatest size above 0 -/
theorem great_pos {zs S least : List Cell} {c : Bool} {best : Int} (hz : rising zs = true) (g : Great zs c best least) (hr : rising S = true) (h : ∀ s ∈ S, s ∈ zs ∧ dark s = c) (lt : (nbL zs S).length < S.length) : 0 < best := by
  have := g.1 S (col_sub hz hr h)
  unfold sizeI at this
  omega
/-- with as many cells of both colours a lack of one colour shows one of the other -/
theorem other_lack {zs l1 l2 : List Cell} {c : Bool} {b1 b2 : Int} (hz : rising zs = true) (g1 : Great zs c b1 l1) (g2 : Great zs (!c) b2 l2) (ev : (colL zs c).length = (colL zs (!c)).length) (p : 0 < b1) : 0 < b2 := by
  obtain ⟨_, _, g3⟩ := g1
  have nz := rising_nodup hz
  rcases g3 with g3 | ⟨_, ⟨S, hS, eS⟩, _⟩
  · omega
  · obtain ⟨a, b⟩ := sub_col hz hS
    have nS := rising_nodup a
    obtain ⟨R, hR⟩ : ∃ R, R = (colL zs (!c)).filter fun z => !decide (z ∈ nbL zs S) := ⟨_, rfl⟩
    have mR : ∀ z, z ∈ R ↔ (z ∈ zs ∧ dark z = !c) ∧ z ∉ nbL zs S := fun z => by rw [hR, List.mem_filter, mem_col]; simp
    have rR : rising R = true := hR ▸ rising_filter (rising_filter hz _) _
    refine great_pos hz g2 rR (fun s hs => ((mR s).mp hs).1) ?_
    have sp := split_len (fun z => decide (z ∈ nbL zs S)) (colL zs (!c))
    rw [← hR] at sp
    have l1 : ((colL zs (!c)).filter fun z => decide (z ∈ nbL zs S)).length ≤ (nbL zs S).length := nodup_le _ _ ((nz.filter _).filter _) fun z hz => of_decide_eq_true (List.mem_filter.mp hz).2
    have l2 := nodup_le (S ++ nbL zs R) (colL zs c) (by
      rw [List.nodup_append]
      refine ⟨nS, nz.filter _, fun x hx y hy e => ?_⟩
      obtain ⟨s, hs, h⟩ := mem_nbL.mp hy
      have q := (mR s).mp hs
      refine q.2 (mem_nbL.mpr ⟨x, hx, ?_⟩)
      rw [e]
      exact near_symm h q.1.1) fun x hx => by
      rcases List.mem_append.mp hx with hx | hx
      · exact mem_col.mpr (b x hx)
      · obtain ⟨s, hs, h⟩ := mem_nbL.mp hx
        have q := (mR s).mp hs
        refine mem_col.mpr ⟨(mem_near.mp h).2, ?_⟩
        rw [near_dark h, q.1.2, Bool.not_not]
    rw [List.length_append] at l2
    unfold sizeI at eS
    omega
theorem oneCol_iff {S : List Cell} : oneCol S = true ↔ S ≠ [] ∧ ∃ c, ∀ s ∈ S, dark s = c := by
  cases S with
  | nil => simp [oneCol]
  | cons s r =>
    simp only [oneCol, List.all_eq_true, beq_iff_eq]
    refine ⟨fun h => ⟨by simp, dark s, h⟩, fun ⟨_, c, h⟩ z hz => ?_⟩
    rw [h z hz, h s (by simp)]
/-- a lack, then the law's due is there -/
theorem lackB_due {zs l1 l2 : List Cell} {b1 b2 : Int} (hz : rising zs = true) (g1 : Great zs true b1 l1) (g2 : Great zs false b2 l2) {v : PyData} (h : lackB zs v = true) : (dueL b1 l1 b2 l2).isNone = false := by
  have : ∃ ds, v = .tuple ds := by
    unfold lackB at h
    split at h
    · exact ⟨_, rfl⟩
    · cases h
  obtain ⟨ds, rfl⟩ := this
  have h0 : lotS zs (.tuple ds) = true := by
    have h' := h
    unfold lackB at h'
    simp only [Bool.and_eq_true] at h'
    exact h'.1
  obtain ⟨S, eS, h1, h2⟩ := lotS_iff.mp h0
  rw [eS, lackB_cells] at h
  simp only [Bool.and_eq_true, decide_eq_true_eq] at h
  obtain ⟨_, c, hc⟩ := oneCol_iff.mp h.2.1
  unfold dueL
  cases c with
  | true => rw [if_pos (great_pos hz g1 h2 (fun s hs => ⟨h1 s hs, hc s hs⟩) h.2.2)]; rfl
  | false =>
    split
    · rfl
    · rw [if_pos (great_pos hz g2 h2 (fun s hs => ⟨h1 s hs, hc s hs⟩) h.2.2)]; rfl
end K25



/-! Lacks from outside. -/
namespace K25
open PySem PySem.Spec PyProof.Rows L2 DL
open PySem.W (AllAlike Sortable dataLe)
local macro_rules | `(tactic| walk_at "dl") => `(tactic| simp only [dSeq, dRet, dRetO, dRetN, dIsi, dName, dAndV, dOrV, dNotV, dAnd, dOr, dNot, dTr, dIf, dIfS, dNext, dNever, dBreak, dCont, dExpr, dSet, dOwn, dAsg, gSet, gTupD, gsCons, gsNil, dCall, dCallK, dACons, dANil, dAPot, dOp, dCB, dCons, dNil, dTup, dLst, dChain, gLen, gIx, gAbs, gInt, gTwo, gTuple, gList, dSl, gSl, dPart, dNoPart, dNeg, dRevT, startD, argSl, List.map_cons, List.map_nil, List.cons_append, List.nil_append, List.append_nil, List.getElem?_cons_zero, List.getElem?_cons_succ, List.set_cons_zero, List.set_cons_succ, List.length_cons, List.length_nil, List.replicate_succ, List.replicate_zero, dK, gCmpI, gLt, gI, gAdd, gMul, gEq, gIs, gIn, Res.data, oData, oLst, oLc, oList, oListRg, iSeq, iRg1, iRg2, iZip_, iEnumD, wipeD, dYes, dPotIx, dPotSet, dPeek, cPeek, dFor, dDat, dFreeze, dInSet, dSetSet, dSortSet, dPeekT, cPeekT, dTmpNew, dND, dNO, dNNil, dSpoil, oMul, dIxOwn, dInDic, dDicNew, dPar, dPar3, zD, zO, zC, xD, xO, RZ.sl, Res.sl, dDictP, dAppend, dExtend, dAugI, dTupOwn, oCall, dPopTo, oSorted, dSpoilAll, dGetDic, dIxDic, dInRdic, dRestDic, dPut2, dRNil, dRCons, dRDic, dCallR, dCallM, gLenD, gIsB, startR, startM, ar2Sl, dPar2z, dLenSet, gInDD, dForPop, dExtA, dSeqQ, gLtA, gSortA, gSort1, dJoin, oSplit, iSig, iEnumSD, gInS, dPopNew, dPotDiv, dCallPot, dRevL, Nat.reduceAdd, Nat.zero_add, Nat.reduceLeDiff, true_and, and_true, Bool.false_eq_true, if_true, if_false])
local macro_rules | `(tactic| walk_at "dv") => `(tactic| simp [isTup, isStr, DL.isInt, DL.isBool, isList, okD_int, okD_bool, okD_none, eqv_int, at0, at1, isNone])
section
variable {P : Program} {w : World} {K : PySem.W.Frag} {mg : Str → Option Value} {base : Heap}
def dfCC (r : List Cell → List Cell → Res) : DF := fun as Q => ∃ fs zs S : List Cell, as = [.d (floorD fs), .d (.tuple (zs.map cellD)), .d (.tuple (S.map cellD))] ∧ FloorOk fs ∧ (rising zs = true ∧ ∀ z ∈ zs, z ∈ fs) ∧ ((rising S = true ∧ ∀ s ∈ S, s ∈ zs) ∧ S.length < 32 ∧ FewN zs S) ∧ Q (r zs S)
theorem dfCC_len {r : List Cell → List Cell → Res} : ∀ as Q, dfCC r as Q → as.length = 3 := by
  rintro as Q ⟨fs, zs, S, rfl, _⟩
  rfl
theorem lot8 {fs zs : List Cell} (hz : FloorOk fs) (hw : rising zs = true ∧ ∀ z ∈ zs, z ∈ fs) : LotOk8 zs := ⟨hw.1, fun z h => hz.b z (hw.2 z h), lot_few hz hw⟩
theorem few_cells {S : List Cell} (h : S.length < 32) : Few (.tuple (S.map cellD)) := fun ds e => by cases e; rw [List.length_map]; exact h
theorem G_check_cells (T : Txt K mg) : Good P w K mg base "check_cells" s_check_cells 8 ["floor", "lot", "cells"] (dfCC fun _ _ => .dat .none) := by
  have G_check_lot := G_check_lot (P := P) (w := w) (base := base) T
  have G_lot_of_lot := G_lot_of_lot (P := P) (w := w) (base := base) T
  refine good_mk (N := ["floor", "lot", "cells"]) T.f_check_cells sc_check_cells (fun _ _ _ _ _ _ us hl => match us, hl with | [_, _, _], _ => rfl) dfCC_len (fun f cdv A outer s H E hr =>
    (dss_cons (ds_expr (de_callG G_check_lot (hr.mono (by decide)) (da_cons (de_name 0) (da_cons (de_name 1) da_nil))))
  (dss_one (ds_if (dc_not (dc_val (de_callG G_lot_of_lot (hr.mono (by decide)) (da_cons (de_name 0) (da_cons (de_name 1) (da_cons (de_name 2) da_nil))))))
  (dss_one ds_never)
  dss_nil)))) ?_
  rintro as Q ⟨fs, zs, S, rfl, hf, hz, ⟨hS, s32, fn⟩, h⟩
  walk_at "dl"
  refine ⟨fs, zs, rfl, hf, hz, fs, zs, .tuple (S.map cellD), rfl, hf, hz, few_cells s32, ?_⟩
  simp only [lotS_iff.mpr ⟨S, rfl, hS.2, hS.1⟩]
  exact h
theorem GN_neighbours (T : Txt K mg) : Good P w K mg base "neighbours" s_neighbours 9 ["floor", "lot", "cells"] (dfCC fun zs S => .dat (.tuple ((nbL zs S).map cellD))) := by
  have G_check_cells := G_check_cells (P := P) (w := w) (base := base) T
  have G_neighbours_in := GN_neighbours_in (P := P) (w := w) (base := base) T
  refine good_mk (N := ["floor", "lot", "cells"]) T.f_neighbours sc_neighbours (fun _ _ _ _ _ _ us hl => match us, hl with | [_, _, _], _ => rfl) dfCC_len (fun f cdv A outer s H E hr =>
    (dss_cons (ds_expr (de_callG G_check_cells (hr.mono (by decide)) (da_cons (de_name 0) (da_cons (de_name 1) (da_cons (de_name 2) da_nil)))))
  (dss_one (ds_ret (de_callG G_neighbours_in (hr.mono (by decide)) (da_cons (de_name 1) (da_cons (de_name 2) da_nil))))))) ?_
  rintro as Q ⟨fs, zs, S, rfl, hf, hz, ⟨hS, s32, fn⟩, h⟩
  walk_at "dl"
  exact ⟨fs, zs, S, rfl, hf, hz, ⟨hS, s32, fn⟩, zs, S, rfl, lot8 hf hz, ⟨hS.2, fn⟩, h⟩
theorem G_lack_size (T : Txt K mg) : Good P w K mg base "lack_size" s_lack_size 9 ["floor", "lot", "cells"] (dfCC fun zs S => .dat (.int (sizeI zs S))) := by
  have G_check_cells := G_check_cells (P := P) (w := w) (base := base) T
  have G_size_in := G_size_in (P := P) (w := w) (base := base) T
  refine good_mk (N := ["floor", "lot", "cells"]) T.f_lack_size sc_lack_size (fun _ _ _ _ _ _ us hl => match us, hl with | [_, _, _], _ => rfl) dfCC_len (fun f cdv A outer s H E hr =>
    (dss_cons (ds_expr (de_callG G_check_cells (hr.mono (by decide)) (da_cons (de_name 0) (da_cons (de_name 1) (da_cons (de_name 2) da_nil)))))
  (dss_one (ds_ret (de_callG G_size_in (hr.mono (by decide)) (da_cons (de_name 1) (da_cons (de_name 2) da_nil))))))) ?_
  rintro as Q ⟨fs, zs, S, rfl, hf, hz, ⟨hS, s32, fn⟩, h⟩
  walk_at "dl"
  exact ⟨fs, zs, S, rfl, hf, hz, ⟨hS, s32, fn⟩, zs, S, rfl, lot8 hf hz, ⟨hS.2, fn⟩, h⟩
def dfIsLack : DF := fun as Q => ∃ (fs zs : List Cell) (v : PyData), as = [.d (floorD fs), .d (.tuple (zs.map cellD)), .d v] ∧ FloorOk fs ∧ ((rising zs = true ∧ ∀ z ∈ zs, z ∈ fs) ∧ zs.length ≤ 16) ∧ Few v ∧ Q (.dat (.bool (lackB zs v)))
theorem dfIsLack_len : ∀ as Q, dfIsLack as Q → as.length = 3 := by
  rintro as Q ⟨fs, zs, S, rfl, _⟩
  rfl
theorem lackB_lot {zs : List Cell} {v : PyData} (h : lotS zs v = false) : lackB zs v = false := by
  unfold lackB
  split
  · rw [h]; rfl
  · rfl
theorem G_is_lack (T : Txt K mg) : Good P w K mg base "is_lack" s_is_lack 8 ["floor", "lot", "value"] dfIsLack := by
  have G_check_lot := G_check_lot (P := P) (w := w) (base := base) T
  have G_lot_of_lot := G_lot_of_lot (P := P) (w := w) (base := base) T
  have G_has_one_colour := G_has_one_colour (P := P) (w := w) (base := base) T
  have G_size_in := G_size_in (P := P) (w := w) (base := base) T
  refine good_mk (N := ["floor", "lot", "value"]) T.f_is_lack sc_is_lack (fun _ _ _ _ _ _ us hl => match us, hl with | [_, _, _], _ => rfl) dfIsLack_len (fun f cdv A outer s H E hr =>
    (dss_cons (ds_expr (de_callG G_check_lot (hr.mono (by decide)) (da_cons (de_name 0) (da_cons (de_name 1) da_nil))))
  (dss_one (ds_ret (de_and (de_callG G_lot_of_lot (hr.mono (by decide)) (da_cons (de_name 0) (da_cons (de_name 1) (da_cons (de_name 2) da_nil)))) (de_and (de_callG G_has_one_colour (hr.mono (by decide)) (da_cons (de_name 2) da_nil)) (de_one (de_cmp (od_gt) (de_callG G_size_in (hr.mono (by decide)) (da_cons (de_name 1) (da_cons (de_name 2) da_nil))) de_int (nomark _))))))))) ?_
  rintro as Q ⟨fs, zs, v, rfl, hf, ⟨hz, z16⟩, hv, h⟩
  walk_at "dl"
  refine ⟨fs, zs, rfl, hf, hz, fs, zs, v, rfl, hf, hz, hv, ?_⟩
  simp only []
  cases e : lotS zs v with
  | false =>
    rw [lackB_lot e] at h
    exact h
  | true =>
    obtain ⟨S, rfl, h1, h2⟩ := lotS_iff.mp e
    have s32 := hv _ rfl
    rw [List.length_map] at s32
    rw [lackB_cells, e, Bool.true_and] at h
    simp only []
    refine ⟨S, rfl, by omega, ?_⟩
    simp only []
    cases e2 : oneCol S with
    | false =>
      rw [e2] at h
      exact h
    | true =>
      rw [e2, Bool.true_and] at h
      simp only []
      refine ⟨zs, S, rfl, lot8 hf hz, ⟨h1, fewN hz.1 z16 (rising_nodup h2) h1⟩, ?_⟩
      have e3 : decide ((nbL zs S).length < S.length) = decide (0 < sizeI zs S) := by
        unfold sizeI
        by_cases q : (nbL zs S).length < S.length
        · rw [decide_eq_true q, decide_eq_true (by omega)]
        · rw [decide_eq_false q, decide_eq_false (by omega)]
      rw [e3] at h
      exact h
def dfLack : DF := fun as Q => ∃ fs zs : List Cell, as = [.d (floorD fs), .d (.tuple (zs.map cellD))] ∧ FloorOk fs ∧ (rising zs = true ∧ ∀ z ∈ zs, z ∈ fs) ∧ ∀ M r, Mt zs M → (∀ z ∈ zs, dark z = true → (look M z).isSome = true ∨ Stuck zs M z) → LackIs zs M r → Q (.dat (optL r))
theorem dfLack_len : ∀ as Q, dfLack as Q → as.length = 2 := by
  rintro as Q ⟨fs, zs, rfl, _⟩
  rfl
theorem G_lack (T : Txt K mg) : Good P w K mg base "lack" s_lack 8 ["floor", "lot"] dfLack := by
  have G_check_lot := G_check_lot (P := P) (w := w) (base := base) T
  have G_lack_by := G_lack_by (P := P) (w := w) (base := base) T
  refine good_mk (N := ["floor", "lot"]) T.f_lack sc_lack (fun _ _ _ _ _ _ us hl => match us, hl with | [_, _], _ => rfl) dfLack_len (fun f cdv A outer s H E hr =>
    (dss_cons (ds_expr (de_callG G_check_lot (hr.mono (by decide)) (da_cons (de_name 0) (da_cons (de_name 1) da_nil))))
  (dss_one (ds_ret (de_callG G_lack_by (hr.mono (by decide)) (da_cons (de_name 1) da_nil)))))) ?_
  rintro as Q ⟨fs, zs, rfl, hf, hz, h⟩
  walk_at "dl"
  exact ⟨fs, zs, rfl, hf, hz, zs, rfl, ⟨rising_nodup hz.1, lot_few hf hz⟩, h⟩
end
end K25



/-! The law's own looks at lacks. -/
namespace K25
open PySem PySem.Spec PyProof.Rows L2 DL
open PySem.W (AllAlike Sortable dataLe)
local macro_rules | `(tactic| walk_at "dl") => `(tactic| simp only [dSeq, dRet, dRetO, dRetN, dIsi, dName, dAndV, dOrV, dNotV, dAnd, dOr, dNot, dTr, dIf, dIfS, dNext, dNever, dBreak, dCont, dExpr, dSet, dOwn, dAsg, gSet, gTupD, gsCons, gsNil, dCall, dCallK, dACons, dANil, dAPot, dOp, dCB, dCons, dNil, dTup, dLst, dChain, gLen, gIx, gAbs, gInt, gTwo, gTuple, gList, dSl, gSl, dPart, dNoPart, dNeg, dRevT, startD, argSl, List.map_cons, List.map_nil, List.cons_append, List.nil_append, List.append_nil, List.getElem?_cons_zero, List.getElem?_cons_succ, List.set_cons_zero, List.set_cons_succ, List.length_cons, List.length_nil, List.replicate_succ, List.replicate_zero, dK, gCmpI, gLt, gI, gAdd, gMul, gEq, gIs, gIn, Res.data, oData, oLst, oLc, oList, oListRg, iSeq, iRg1, iRg2, iZip_, iEnumD, wipeD, dYes, dPotIx, dPotSet, dPeek, cPeek, dFor, dDat, dFreeze, dInSet, dSetSet, dSortSet, dPeekT, cPeekT, dTmpNew, dND, dNO, dNNil, dSpoil, oMul, dIxOwn, dInDic, dDicNew, dPar, dPar3, zD, zO, zC, xD, xO, RZ.sl, Res.sl, dDictP, dAppend, dExtend, dAugI, dTupOwn, oCall, dPopTo, oSorted, dSpoilAll, dGetDic, dIxDic, dInRdic, dRestDic, dPut2, dRNil, dRCons, dRDic, dCallR, dCallM, gLenD, gIsB, startR, startM, ar2Sl, dPar2z, dLenSet, gInDD, dForPop, dExtA, dSeqQ, gLtA, gSortA, gSort1, dJoin, oSplit, iSig, iEnumSD, gInS, dPopNew, dPotDiv, dCallPot, dRevL, Nat.reduceAdd, Nat.zero_add, Nat.reduceLeDiff, true_and, and_true, Bool.false_eq_true, if_true, if_false])
local macro_rules | `(tactic| walk_at "dv") => `(tactic| simp [isTup, isStr, DL.isInt, DL.isBool, isList, okD_int, okD_bool, okD_none, eqv_int, at0, at1, isNone])
section
variable {P : Program} {w : World} {K : PySem.W.Frag} {mg : Str → Option Value} {base : Heap}
theorem G__law_dark (T : Txt K mg) : Good P w K mg base "_law_dark" s__law_dark 1 ["cell"] (dfCell fun z => .bool (dark z)) := by
  refine good_mk (N := ["cell"]) T.f__law_dark sc__law_dark (fun _ _ _ _ _ _ us hl => match us, hl with | [_], _ => rfl) dfCell_len (fun f cdv A outer s H E hr =>
    (dss_one (ds_ret (de_cmp (od_eq hr.u) (de_op od_mul (de_op od_div (de_op od_add (de_ix (de_name 0) de_int) (de_ix (de_name 0) de_int)) de_int) de_int) (de_op od_add (de_ix (de_name 0) de_int) (de_ix (de_name 0) de_int)) (nomark _))))) ?_
  rintro as Q ⟨z, rfl, h⟩
  have a0 : atI [PyData.int z.1, .int z.2] 0 = some (.int z.1) := rfl
  have a1 : atI [PyData.int z.1, .int z.2] 1 = some (.int z.2) := rfl
  walk_at "dl"
  rw [a0, a1]
  simp only []
  refine ⟨⟨by decide, by decide⟩, .inr ⟨by decide, by decide⟩, by rw [okD_int, okD_int]; rfl, ?_⟩
  have h : Q (.dat (.bool (dark z))) := h
  rw [eqv_int]
  have e : decide ((z.1 + z.2).fdiv 2 * 2 = z.1 + z.2) = dark z := by
    rw [Int.fdiv_eq_ediv_of_nonneg _ (by decide)]
    cases q : dark z with
    | true =>
      have := dark_eq.mp q
      exact decide_eq_true (by omega)
    | false =>
      refine decide_eq_false fun n => ?_
      rw [dark_eq.mpr (by omega)] at q
      cases q
  rw [e]
  exact h
theorem G__law_near (T : Txt K mg) : Good P w K mg base "_law_near" s__law_near 2 ["lot", "cells"] (dfZS fun zs S => .tuple ((nbL zs S).map cellD)) := by
  have G__law_beside := GZ_law_beside (P := P) (w := w) (base := base) T
  refine good_mk (N := ["lot", "cells", "found", "cell"]) T.f__law_near sc__law_near (fun _ _ _ _ _ _ us hl => match us, hl with | [_, _], _ => rfl) dfZS_len (fun f cdv A outer s H E hr =>
    (dss_cons (ds_own 2 sc__law_near.nd (do_lst dl_nil))
  (dss_cons (ds_for PassesOwn.never rfl (di_seq (de_name 1)) (dg_name 3 sc__law_near.nd)
  (dss_one (ds_extend 2 (de_callG G__law_beside (hr.mono (by decide)) (da_cons (de_name 3) (da_cons (de_name 0) da_nil))))))
  (dss_one (ds_freeze 2 (h := (ds_ret (de_callTy (cd_tuple) T.b_tuple (dl_cons (de_sortSet rfl hr.u T.b_set T.b_sorted (de_name 2)) dl_nil))))))))) ?_
  rintro as Q ⟨zs, S, rfl, hz, ⟨hS, sl⟩, h⟩
  unfold FewN at sl
  walk_at "dl"
  refine loopD_pre cellD (fun pre ρ => ∃ s4, Du s4 ∧ ρ = [.dat (.tuple (zs.map cellD)), .dat (.tuple (S.map cellD)), .own ((pre.flatMap fun s => nearL zs s).map cellD), s4]) S _ ⟨.emp, .inl rfl, rfl⟩ ?_ ?_
  · rintro pre x post ρ N exs ⟨s4, d4, rfl⟩ hN
    have lp : (pre.flatMap fun s => nearL zs s).length + (nearL zs x).length < 64 := by
      rw [exs, List.flatMap_append, List.flatMap_cons] at sl
      simp only [List.length_append] at sl
      omega
    walk_at "dl"
    refine ⟨zs, x, rfl, ?_⟩
    simp only []
    refine ⟨⟨rfl, by rw [List.length_map, List.length_map]; omega⟩, hN _ ⟨.dat (cellD x), .inr ⟨_, rfl⟩, ?_⟩⟩
    rw [List.flatMap_append, List.flatMap_cons, List.flatMap_nil, List.append_nil, List.map_append]
  · rintro ρ ⟨s4, d4, rfl⟩
    walk_at "dl"
    refine ⟨nt_dat (nt_dat (nt_own (nt_du d4 rfl))), S.flatMap fun s => nearL zs s, .inl rfl, sl, fun z hz' => ?_, fun ws pw hw => ?_⟩
    · obtain ⟨s, hs, hn⟩ := List.mem_flatMap.mp hz'
      have := hz.b z (mem_near.mp hn).2
      omega
    · have e : ws = nbL zs S := rising_ext (pairwise_lt pw) (rising_filter hz.r _) fun z => by
        rw [hw, List.mem_flatMap]
        exact mem_nbL.symm
      rw [e]
      exact h
/-- all lots of some cells -/
def lotsL (zs : List Cell) : List (List Cell) := zs.foldl (fun Ls z => Ls ++ Ls.map fun S => S ++ [z]) [[]]
theorem lots_grow (x : Cell) (zs : List Cell) : lotsL (zs ++ [x]) = lotsL zs ++ (lotsL zs).map fun S => S ++ [x] := by
  unfold lotsL
  rw [List.foldl_append]; rfl
theorem snoc_ind {P : List Cell → Prop} (h0 : P []) (h1 : ∀ zs x, P zs → P (zs ++ [x])) (zs : List Cell) : P zs := by
  have q : ∀ l : List Cell, P l.reverse := fun l => by
    induction l with
    | nil => exact h0
    | cons x l ih => rw [List.reverse_cons]; exact h1 _ _ ih
  have := q zs.reverse
  rwa [List.reverse_reverse] at this
theorem lots_len (zs : List Cell) : (lotsL zs).length = 2 ^ zs.length := by
  refine snoc_ind (P := fun zs => (lotsL zs).length = 2 ^ zs.length) rfl (fun zs x ih => ?_) zs
  rw [lots_grow, List.length_append, List.length_map, ih, List.length_append, List.length_singleton, Nat.pow_succ]
  omega
theorem lots_mem {zs S : List Cell} : S ∈ lotsL zs ↔ S.Sublist zs := by
  have gen : ∀ S : List Cell, S ∈ lotsL zs ↔ S.Sublist zs := by
    refine snoc_ind (P := fun zs => ∀ S : List Cell, S ∈ lotsL zs ↔ S.Sublist zs) (fun S => by rw [show lotsL [] = [[]] from rfl, List.mem_singleton, List.sublist_nil]) (fun zs x ih S => ?_) zs
    rw [lots_grow, List.mem_append, List.mem_map]
    constructor
    · rintro (h | ⟨R, h, rfl⟩)
      · exact ((ih S).mp h).trans (List.sublist_append_left _ _)
      · exact ((ih R).mp h).append (List.Sublist.refl _)
    · intro h
      obtain ⟨a, b, rfl, ha, hb⟩ := List.sublist_append_iff.mp h
      cases hb with
      | cons _ hb =>
        cases hb
        exact .inl (by rw [List.append_nil]; exact (ih a).mpr ha)
      | cons_cons _ hb =>
        cases hb
        exact .inr ⟨a, (ih a).mpr ha, rfl⟩
  exact gen S
abbrev lotD (S : List Cell) : PyData := .tuple (S.map cellD)
def dfLots : DF := fun as Q => ∃ zs : List Cell, as = [.d (.list (zs.map cellD))] ∧ zs.length ≤ 16 ∧ Q (.dat (.list ((lotsL zs).map lotD)))
theorem dfLots_len : ∀ as Q, dfLots as Q → as.length = 1 := by
  rintro as Q ⟨zs, rfl, _⟩
  rfl
theorem G__law_lots (T : Txt K mg) : Good P w K mg base "_law_lots" s__law_lots 1 ["cells"] dfLots := by
  refine good_mk (N := ["cells", "found", "cell", "lot"]) T.f__law_lots sc__law_lots (fun _ _ _ _ _ _ us hl => match us, hl with | [_], _ => rfl) dfLots_len (fun f cdv A outer s H E hr =>
    (dss_cons (ds_set 1 sc__law_lots.nd (DO.de (do_lst (dl_cons (de_tup dl_nil) dl_nil))))
  (dss_cons (ds_for PassesOwn.never rfl (di_seq (de_name 0)) (dg_name 2 sc__law_lots.nd)
  (dss_one (ds_set 1 sc__law_lots.nd (de_op od_add (de_name 1) (DO.de (do_lc (own := [("lot", 3)]) rfl sc__law_lots.nd (di_seq (de_name 1)) (blkOk_by (own := [("lot", 3)]) (by rfl)) (fun _ _ _ _ _ => (dg_name 3 sc__law_lots.nd)) (fun _ _ _ _ _ => dts_nil) (fun _ _ _ _ _ => (de_op od_add (de_name 3) (de_tup (dl_cons (de_name 2) dl_nil)))) (by decide)))))))
  (dss_one (ds_ret (de_name 1)))))) ?_
  rintro as Q ⟨zs, rfl, hl, h⟩
  walk_at "dl"
  refine loopD_pre cellD (fun pre ρ => ∃ s2, Du s2 ∧ ρ = [.dat (.list (zs.map cellD)), .dat (.list ((lotsL pre).map lotD)), s2, .emp]) zs _ ⟨.emp, .inl rfl, rfl⟩ ?_ ?_
  · rintro pre x post ρ N exs ⟨s2, d2, rfl⟩ hN
    have pl : pre.length + 1 ≤ 16 := by
      have := congrArg List.length exs
      simp only [List.length_append, List.length_cons] at this
      omega
    have ll : (lotsL pre).length ≤ 32768 := by
      rw [lots_len]
      exact Nat.le_trans (Nat.pow_le_pow_right (by decide) (show pre.length ≤ 15 by omega)) (by decide)
    walk_at "dl"
    refine lcD_m lotD (fun S => lotD (S ++ [x])) (lotsL pre) (fun S hS Q hq => ?_) (by omega) ?_
    · have sl : S.length ≤ 15 := by
        have := (lots_mem.mp hS).length_le
        omega
      walk_at "dl"
      refine ⟨by rw [List.length_map]; omega, ?_⟩
      rw [show S.map cellD ++ [cellD x] = (S ++ [x]).map cellD by rw [List.map_append]; rfl]
      exact hq
    · refine ⟨by rw [List.length_map, List.length_map]; omega, hN _ ⟨.dat (cellD x), .inr ⟨_, rfl⟩, ?_⟩⟩
      rw [lots_grow, List.map_append, List.map_map]
      rfl
  · rintro ρ ⟨s2, d2, rfl⟩
    exact h
end
end K25



/-! The law's own looks at lacks, 2. -/
namespace K25
open PySem PySem.Spec PyProof.Rows L2 DL
open PySem.W (AllAlike Sortable dataLe)
local macro_rules | `(tactic| walk_at "dl") => `(tactic| simp only [dSeq, dRet, dRetO, dRetN, dIsi, dName, dAndV, dOrV, dNotV, dAnd, dOr, dNot, dTr, dIf, dIfS, dNext, dNever, dBreak, dCont, dExpr, dSet, dOwn, dAsg, gSet, gTupD, gsCons, gsNil, dCall, dCallK, dACons, dANil, dAPot, dOp, dCB, dCons, dNil, dTup, dLst, dChain, gLen, gIx, gAbs, gInt, gTwo, gTuple, gList, dSl, gSl, dPart, dNoPart, dNeg, dRevT, startD, argSl, List.map_cons, List.map_nil, List.cons_append, List.nil_append, List.append_nil, List.getElem?_cons_zero, List.getElem?_cons_succ, List.set_cons_zero, List.set_cons_succ, List.length_cons, List.length_nil, List.replicate_succ, List.replicate_zero, dK, gCmpI, gLt, gI, gAdd, gMul, gEq, gIs, gIn, Res.data, oData, oLst, oLc, oList, oListRg, iSeq, iRg1, iRg2, iZip_, iEnumD, wipeD, dYes, dPotIx, dPotSet, dPeek, cPeek, dFor, dDat, dFreeze, dInSet, dSetSet, dSortSet, dPeekT, cPeekT, dTmpNew, dND, dNO, dNNil, dSpoil, oMul, dIxOwn, dInDic, dDicNew, dPar, dPar3, zD, zO, zC, xD, xO, RZ.sl, Res.sl, dDictP, dAppend, dExtend, dAugI, dTupOwn, oCall, dPopTo, oSorted, dSpoilAll, dGetDic, dIxDic, dInRdic, dRestDic, dPut2, dRNil, dRCons, dRDic, dCallR, dCallM, gLenD, gIsB, startR, startM, ar2Sl, dPar2z, dLenSet, gInDD, dForPop, dExtA, dSeqQ, gLtA, gSortA, gSort1, dJoin, oSplit, iSig, iEnumSD, gInS, dPopNew, dPotDiv, dCallPot, dRevL, Nat.reduceAdd, Nat.zero_add, Nat.reduceLeDiff, true_and, and_true, Bool.false_eq_true, if_true, if_false])
local macro_rules | `(tactic| walk_at "dv") => `(tactic| simp [isTup, isStr, DL.isInt, DL.isBool, isList, okD_int, okD_bool, okD_none, eqv_int, at0, at1, isNone])
def lotOne (ss : List (List Cell)) : List Cell := match ss with | [] => [] | S :: _ => S.filter fun z => ss.all fun R => decide (z ∈ R)
theorem any_lot (S : List Cell) (z : Cell) : ((S.map cellD).any fun d => PyData.eqv d (cellD z)) = decide (z ∈ S) := any_cells S z
section
variable {P : Program} {w : World} {K : PySem.W.Frag} {mg : Str → Option Value} {base : Heap}
def dfGreat : DF := fun as Q => ∃ (zs : List Cell) (c : Bool), as = [.d (.tuple (zs.map cellD)), .d (.bool c)] ∧ LotOk8 zs ∧ zs.length ≤ 16 ∧ ∀ best least, Great zs c best least → Q (.dat (.tuple [.int best, .tuple (least.map cellD)]))
theorem dfGreat_len : ∀ as Q, dfGreat as Q → as.length = 2 := by
  rintro as Q ⟨zs, c, rfl, _⟩
  rfl
theorem G__law_greatest (T : Txt K mg) : Good P w K mg base "_law_greatest" s__law_greatest 3 ["lot", "colour"] dfGreat := by
  have G__law_dark := G__law_dark (P := P) (w := w) (base := base) T
  have G__law_lots := G__law_lots (P := P) (w := w) (base := base) T
  have G__law_near := G__law_near (P := P) (w := w) (base := base) T
  refine good_mk (N := ["lot", "colour", "best", "some", "cells", "size", "least", "cell"]) T.f__law_greatest sc__law_greatest (fun _ _ _ _ _ _ us hl => match us, hl with | [_, _], _ => rfl) dfGreat_len (fun f cdv A outer s H E hr =>
    (dss_cons (ds_par2 2 3 rfl sc__law_greatest.nd (dz_d de_int) (dz_o (do_lst dl_nil)))
  (dss_cons (ds_for PassesOwn.never rfl (di_seq (de_callG G__law_lots (hr.mono (by decide)) (da_cons (DO.de (do_lc (own := [("cell", 7)]) rfl sc__law_greatest.nd (di_seq (de_name 0)) (blkOk_by (own := [("cell", 7)]) (by rfl)) (fun _ _ _ _ _ => (dg_name 7 sc__law_greatest.nd)) (fun _ _ _ _ _ => (dts_one (dc_cmp (od_eq hr.u) (de_callG G__law_dark (hr.mono (by decide)) (da_cons (de_name 7) da_nil)) (de_name 1) (nomark _)))) (fun _ _ _ _ _ => (de_name 7)) (by decide))) da_nil))) (dg_name 4 sc__law_greatest.nd)
  (dss_cons (ds_set 5 sc__law_greatest.nd (de_op od_sub (de_callB (cd_len) T.b_len (dl_cons (de_name 4) dl_nil)) (de_callB (cd_len) T.b_len (dl_cons (de_callG G__law_near (hr.mono (by decide)) (da_cons (de_name 0) (da_cons (de_name 4) da_nil))) dl_nil))))
  (dss_one (ds_if (dc_cmp (od_gt) (de_name 5) (de_name 2) (nomark _))
  (dss_one (ds_par2 2 3 rfl sc__law_greatest.nd (dz_d (de_name 5)) (dz_o (do_lst (dl_cons (de_name 4) dl_nil)))))
  (dss_one (ds_if (dc_cmp (od_eq hr.u) (de_name 5) (de_name 2) (nomark _))
  (dss_one (ds_append 3 (de_name 4)))
  dss_nil))))))
  (dss_cons (ds_freeze 3 (h := (ds_set 6 sc__law_greatest.nd (de_if (dc_cmp (od_gt) (de_name 2) de_int (nomark _)) (DO.de (do_lc (own := [("cell", 7)]) rfl sc__law_greatest.nd (di_seq (de_ix (de_name 3) de_int)) (blkOk_by (own := [("cell", 7)]) (by rfl)) (fun _ _ _ _ _ => (dg_name 7 sc__law_greatest.nd)) (fun _ _ _ _ _ => (dts_one (dc_val (de_callB (cd_all rfl) T.b_all (dl_cons (DO.de (do_lc (own := [("cells", 4)]) rfl sc__law_greatest.nd (di_seq (de_name 3)) (blkOk_by (own := [("cells", 4)]) (by rfl)) (fun _ _ _ _ _ => (dg_name 4 sc__law_greatest.nd)) (fun _ _ _ _ _ => dts_nil) (fun _ _ _ _ _ => (de_cmp (od_in hr.u5) (de_name 7) (de_name 4) (by rfl))) (by decide))) dl_nil))))) (fun _ _ _ _ _ => (de_name 7)) (by decide))) (de_lst dl_nil)))))
  (dss_one (ds_ret (de_tup (dl_cons (de_name 2) (dl_cons (de_callTy (cd_tuple) T.b_tuple (dl_cons (de_name 6) dl_nil)) dl_nil))))))))) ?_
  rintro as Q ⟨zs, c, rfl, hz, h16, h⟩
  walk_at "dl"
  refine lcD_fm cellD (fun z => dark z == c) cellD zs [] (fun x hx Q hq => ?_) (fun x hx _ Q hq => ?_) (by simp; omega) ?_
  · walk_at "dl"
    refine ⟨x, rfl, ?_⟩
    simp only []
    refine ⟨by rw [okD_bool, okD_bool]; rfl, ?_⟩
    have eb : PyData.eqv (.bool (dark x)) (.bool c) = (dark x == c) := by
      cases dark x <;> cases c <;> simp [PyData.eqv]
    rw [eb]
    exact hq
  · walk_at "dl"
    exact hq
  rw [List.nil_append]
  have l16 : (colL zs c).length ≤ 16 := Nat.le_trans (List.length_filter_le _ _) h16
  refine ⟨colL zs c, rfl, l16, ?_⟩
  simp only []
  have ll : (lotsL (colL zs c)).length ≤ 65536 := by
    rw [lots_len]
    exact Nat.le_trans (Nat.pow_le_pow_right (by decide) l16) (by decide)
  refine loopD_pre lotD (fun pre ρ => ∃ (best : Int) (s4 s5 : Sl), (Du s4 ∧ Du s5) ∧ ((∀ S ∈ pre, sizeI zs S ≤ best) ∧ 0 ≤ best ∧ (best = 0 ∨ ∃ S ∈ pre, sizeI zs S = best)) ∧ ρ = [.dat (.tuple (zs.map cellD)), .dat (.bool c), .dat (.int best), .own ((pre.filter fun S => decide (sizeI zs S = best)).map lotD), s4, s5, .emp, .emp]) (lotsL (colL zs c)) _
    ⟨0, .emp, .emp, ⟨.inl rfl, .inl rfl⟩, ⟨(fun S h => nomatch h), Int.le_refl 0, .inl rfl⟩, rfl⟩ ?_ ?_
  · rintro pre S post ρ N exs ⟨best, s4, s5, ⟨d4, d5⟩, ⟨b1, b2, b3⟩, rfl⟩ hN
    have hS : S ∈ lotsL (colL zs c) := by rw [exs]; simp
    have pl : pre.length < 65536 := by
      have := congrArg List.length exs
      simp only [List.length_append, List.length_cons] at this
      omega
    obtain ⟨rS, cS⟩ := sub_col hz.r (lots_mem.mp hS)
    have fl := List.length_filter_le (fun S => decide (sizeI zs S = best)) pre
    walk_at "dl"
    refine ⟨zs, S, rfl, hz, ⟨fun s hs => (cS s hs).1, fewN hz.r h16 (rising_nodup rS) fun s hs => (cS s hs).1⟩, ?_⟩
    simp only []
    rw [List.length_map, List.length_map, show ((S.length : Nat) : Int) - ((nbL zs S).length : Nat) = sizeI zs S from rfl]
    by_cases q : best < sizeI zs S
    · rw [decide_eq_true q]
      have ef : (pre ++ [S]).filter (fun R => decide (sizeI zs R = sizeI zs S)) = [S] := by
        rw [List.filter_append, List.filter_eq_nil_iff.mpr fun R hR => by
          have := b1 R hR
          rw [decide_eq_false (by omega)]; decide]
        simp
      refine hN _ ⟨sizeI zs S, .dat (lotD S), .dat (.int (sizeI zs S)), ⟨.inr ⟨_, rfl⟩, .inr ⟨_, rfl⟩⟩, ⟨fun R hR => ?_, by omega, .inr ⟨S, by simp, rfl⟩⟩, by rw [ef]; rfl⟩
      rcases List.mem_append.mp hR with hR | hR
      · have := b1 R hR; omega
      · rw [List.mem_singleton.mp hR]; exact Int.le_refl _
    · rw [decide_eq_false q]
      simp only []
      have b1' : ∀ R ∈ pre ++ [S], sizeI zs R ≤ best := fun R hR => by
        rcases List.mem_append.mp hR with hR | hR
        · exact b1 R hR
        · rw [List.mem_singleton.mp hR]; omega
      have b3' : best = 0 ∨ ∃ R ∈ pre ++ [S], sizeI zs R = best := b3.imp id fun ⟨R, hR, e⟩ => ⟨R, List.mem_append_left _ hR, e⟩
      refine ⟨by rw [okD_int, okD_int]; rfl, ?_⟩
      rw [eqv_int]
      by_cases q2 : sizeI zs S = best
      · rw [decide_eq_true q2]
        have ef : (pre ++ [S]).filter (fun R => decide (sizeI zs R = best)) = pre.filter (fun R => decide (sizeI zs R = best)) ++ [S] := by
          rw [List.filter_append, List.filter_cons, if_pos (decide_eq_true q2)]; rfl
        refine ⟨⟨rfl, by rw [List.length_map]; omega⟩, hN _ ⟨best, .dat (lotD S), .dat (.int (sizeI zs S)), ⟨.inr ⟨_, rfl⟩, .inr ⟨_, rfl⟩⟩, ⟨b1', b2, b3'⟩, by rw [ef, List.map_append]; rfl⟩⟩
      · rw [decide_eq_false q2]
        have ef : (pre ++ [S]).filter (fun R => decide (sizeI zs R = best)) = pre.filter (fun R => decide (sizeI zs R = best)) := by
          rw [List.filter_append, List.filter_cons, if_neg (by rw [decide_eq_false q2]; decide), List.filter_nil, List.append_nil]
        exact hN _ ⟨best, .dat (lotD S), .dat (.int (sizeI zs S)), ⟨.inr ⟨_, rfl⟩, .inr ⟨_, rfl⟩⟩, ⟨b1', b2, b3'⟩, by rw [ef]⟩
  · rintro ρ ⟨best, s4, s5, ⟨d4, d5⟩, ⟨b1, b2, b3⟩, rfl⟩
    have b1' : ∀ S : List Cell, S.Sublist (colL zs c) → sizeI zs S ≤ best := fun S hS => b1 S (lots_mem.mpr hS)
    walk_at "dl"
    refine ⟨nt_dat (nt_dat (nt_dat (nt_own (nt_du d4 (nt_du d5 rfl))))), ?_⟩
    by_cases q : 0 < best
    · rw [decide_eq_true q]
      simp only []
      obtain ⟨ss, hss⟩ : ∃ ss, ss = (lotsL (colL zs c)).filter fun S => decide (sizeI zs S = best) := ⟨_, rfl⟩
      have ms : ∀ S, S ∈ ss ↔ S.Sublist (colL zs c) ∧ sizeI zs S = best := fun S => by rw [hss, List.mem_filter, lots_mem, decide_eq_true_iff]
      have sl : ss.length ≤ 65536 := by rw [hss]; exact Nat.le_trans (List.length_filter_le _ _) ll
      rw [← hss]
      obtain ⟨S0, hS0, eS0⟩ : ∃ S ∈ lotsL (colL zs c), sizeI zs S = best := b3.resolve_left (by omega)
      have m0 : S0 ∈ ss := (ms S0).mpr ⟨lots_mem.mp hS0, eS0⟩
      cases ss with
      | nil => cases m0
      | cons R Rs =>
        have mR := (ms R).mp (by simp)
        obtain ⟨rR, cR⟩ := sub_col hz.r mR.1
        have Rl : R.length ≤ 16 := Nat.le_trans mR.1.length_le l16
        have a0 : atI (lotD R :: Rs.map lotD) 0 = some (lotD R) := atI_nat (j := 0) rfl
        rw [List.map_cons, a0, ← List.map_cons (f := lotD)]
        simp only []
        refine lcD_fm cellD (fun z => (R :: Rs).all fun S => decide (z ∈ S)) cellD R [] (fun x hx Q hq => ?_) (fun x hx _ Q hq => ?_) (by simp; omega) ?_
        · walk_at "dl"
          refine lcD_m lotD (fun S => .bool (decide (x ∈ S))) (R :: Rs) (fun S hS Q hq => ?_) (by omega) ?_
          · walk_at "dl"
            refine ⟨ok_in S x, ?_⟩
            rw [any_cells]
            exact hq
          · refine gAll_map (fun S : List Cell => decide (x ∈ S)) _ _ ?_
            exact hq
        · walk_at "dl"
          exact hq
        · rw [List.nil_append]
          refine h best _ ⟨b1', b2, .inr ⟨q, ⟨S0, lots_mem.mp hS0, eS0⟩, rising_filter rR _, fun z => ?_⟩⟩
          rw [List.mem_filter, List.all_eq_true]
          simp only [decide_eq_true_eq]
          exact ⟨fun hz S h1 h2 => hz.2 S ((ms S).mpr ⟨h1, h2⟩), fun hz => ⟨hz R mR.1 mR.2, fun S hS => hz S ((ms S).mp hS).1 ((ms S).mp hS).2⟩⟩
    · rw [decide_eq_false q]
      exact h best [] ⟨b1', b2, .inl ⟨by omega, rfl⟩⟩
end
end K25



/-! The law's own looks at any values as lacks. -/
namespace K25
open PySem PySem.Spec PyProof.Rows L2 DL
open PySem.W (AllAlike Sortable dataLe)
local macro_rules | `(tactic| walk_at "dl") => `(tactic| simp only [dSeq, dRet, dRetO, dRetN, dIsi, dName, dAndV, dOrV, dNotV, dAnd, dOr, dNot, dTr, dIf, dIfS, dNext, dNever, dBreak, dCont, dExpr, dSet, dOwn, dAsg, gSet, gTupD, gsCons, gsNil, dCall, dCallK, dACons, dANil, dAPot, dOp, dCB, dCons, dNil, dTup, dLst, dChain, gLen, gIx, gAbs, gInt, gTwo, gTuple, gList, dSl, gSl, dPart, dNoPart, dNeg, dRevT, startD, argSl, List.map_cons, List.map_nil, List.cons_append, List.nil_append, List.append_nil, List.getElem?_cons_zero, List.getElem?_cons_succ, List.set_cons_zero, List.set_cons_succ, List.length_cons, List.length_nil, List.replicate_succ, List.replicate_zero, dK, gCmpI, gLt, gI, gAdd, gMul, gEq, gIs, gIn, Res.data, oData, oLst, oLc, oList, oListRg, iSeq, iRg1, iRg2, iZip_, iEnumD, wipeD, dYes, dPotIx, dPotSet, dPeek, cPeek, dFor, dDat, dFreeze, dInSet, dSetSet, dSortSet, dPeekT, cPeekT, dTmpNew, dND, dNO, dNNil, dSpoil, oMul, dIxOwn, dInDic, dDicNew, dPar, dPar3, zD, zO, zC, xD, xO, RZ.sl, Res.sl, dDictP, dAppend, dExtend, dAugI, dTupOwn, oCall, dPopTo, oSorted, dSpoilAll, dGetDic, dIxDic, dInRdic, dRestDic, dPut2, dRNil, dRCons, dRDic, dCallR, dCallM, gLenD, gIsB, startR, startM, ar2Sl, dPar2z, dLenSet, gInDD, dForPop, dExtA, dSeqQ, gLtA, gSortA, gSort1, dJoin, oSplit, iSig, iEnumSD, gInS, dPopNew, dPotDiv, dCallPot, dRevL, Nat.reduceAdd, Nat.zero_add, Nat.reduceLeDiff, true_and, and_true, Bool.false_eq_true, if_true, if_false])
local macro_rules | `(tactic| walk_at "dv") => `(tactic| simp [isTup, isStr, DL.isInt, DL.isBool, isList, okD_int, okD_bool, okD_none, eqv_int, at0, at1, isNone])
def isPair (v : PyData) : Bool := match v with | .tuple ds => decide (((ds.length : Nat) : Int) = 2) | _ => false
theorem lackB_bad {zs : List Cell} {ds : List PyData} (h : ∃ d ∈ ds, spotIn zs d = false) : lackB zs (.tuple ds) = false := by
  refine lackB_lot ?_
  obtain ⟨d, hd, e⟩ := h
  unfold lotS
  simp only []
  rw [List.all_eq_false.mpr ⟨d, hd, by rw [e]; decide⟩, Bool.false_and]
theorem spot_pair {zs : List Cell} {d : PyData} (h : isPair d = false) : spotIn zs d = false := by
  unfold spotIn
  cases e : asCell d with
  | none => rfl
  | some z =>
    rw [asCell_some e] at h
    cases h
theorem lackB_two {zs : List Cell} {ds : List PyData} {z u : Cell} (hz : cellD z ∈ ds) (hu : cellD u ∈ ds) (n : (dark u == dark z) = false) : lackB zs (.tuple ds) = false := by
  cases e : lotS zs (.tuple ds) with
  | false => exact lackB_lot e
  | true =>
    obtain ⟨S, eS, h1, h2⟩ := lotS_iff.mp e
    cases eS
    rw [lackB_cells, e, Bool.true_and]
    have mem : ∀ {y : Cell}, cellD y ∈ S.map cellD → y ∈ S := fun {y} hy => by
      obtain ⟨s, hs, e⟩ := List.mem_map.mp hy
      have := congrArg asCell e
      rw [asCell_cell, asCell_cell] at this
      cases this
      exact hs
    cases eo : oneCol S with
    | false => rfl
    | true =>
      obtain ⟨_, c, hc⟩ := oneCol_iff.mp eo
      rw [hc _ (mem hz), hc _ (mem hu)] at n
      simp at n
section
variable {P : Program} {w : World} {K : PySem.W.Frag} {mg : Str → Option Value} {base : Heap}
def dfLawLack : DF := fun as Q => ∃ (zs : List Cell) (v : PyData), as = [.d (.tuple (zs.map cellD)), .d v] ∧ LotOk8 zs ∧ zs.length ≤ 16 ∧ (Few v ∧ okD v = true) ∧ Q (.dat (.bool (lackB zs v)))
theorem dfLawLack_len : ∀ as Q, dfLawLack as Q → as.length = 2 := by
  rintro as Q ⟨zs, c, rfl, _⟩
  rfl
theorem G__law_is_lack (T : Txt K mg) : Good P w K mg base "_law_is_lack" s__law_is_lack 3 ["lot", "value"] dfLawLack := by
  have G__law_dark := G__law_dark (P := P) (w := w) (base := base) T
  have G__law_near := G__law_near (P := P) (w := w) (base := base) T
  refine good_mk (N := ["lot", "value", "one", "part", "other"]) T.f__law_is_lack sc__law_is_lack (fun _ _ _ _ _ _ us hl => match us, hl with | [_, _], _ => rfl) dfLawLack_len (fun f cdv A outer s H E hr =>
    (dss_cons (ds_if (dc_bool (dw_or (dc_not (dc_val (de_isi kit_tuple T.b_isinstance T.b_tuple (de_name 1)))) (dw_or (dc_cmp (od_eq hr.u) (de_name 1) (de_tup dl_nil) (nomark _)) (dw_or1 (dc_not (dc_val (de_callB (cd_all rfl) T.b_all (dl_cons (DO.de (do_lc (own := [("one", 2)]) rfl sc__law_is_lack.nd (di_seq (de_name 1)) (blkOk_by (own := [("one", 2)]) (by rfl)) (fun _ _ _ _ _ => (dg_name 2 sc__law_is_lack.nd)) (fun _ _ _ _ _ => dts_nil) (fun _ _ _ _ _ => (de_and (de_isi kit_tuple T.b_isinstance T.b_tuple (de_name 2)) (de_one (de_cmp (od_eq hr.u) (de_callB (cd_len) T.b_len (dl_cons (de_name 2) dl_nil)) de_int (nomark _))))) (by decide))) dl_nil))))))))
  (dss_one (ds_ret de_bl))
  dss_nil)
  (dss_cons (ds_for PassesOwn.never rfl (di_seq (de_name 1)) (dg_name 2 sc__law_is_lack.nd)
  (dss_one (ds_if (dc_bool (dw_or (dc_not (dc_val (de_callB (cd_all rfl) T.b_all (dl_cons (DO.de (do_lc (own := [("part", 3)]) rfl sc__law_is_lack.nd (di_seq (de_name 2)) (blkOk_by (own := [("part", 3)]) (by rfl)) (fun _ _ _ _ _ => (dg_name 3 sc__law_is_lack.nd)) (fun _ _ _ _ _ => dts_nil) (fun _ _ _ _ _ => (de_and (de_isi kit_int T.b_isinstance T.b_int (de_name 3)) (de_one (de_not (de_isi kit_bool T.b_isinstance T.b_bool (de_name 3)))))) (by decide))) dl_nil)))) (dw_or (dc_cmp (od_nin hr.u5) (de_name 2) (de_name 0) (by rfl)) (dw_or1 (dc_cmp (od_ne hr.u) (de_callG G__law_dark (hr.mono (by decide)) (da_cons (de_name 2) da_nil)) (de_callG G__law_dark (hr.mono (by decide)) (da_cons (de_ix (de_name 1) de_int) da_nil)) (nomark _))))))
  (dss_one (ds_ret de_bl))
  dss_nil)))
  (dss_one (ds_ret (de_and (de_callB (cd_all rfl) T.b_all (dl_cons (DO.de (do_lc (own := [("one", 2), ("other", 4)]) rfl sc__law_is_lack.nd (di_zip T.b_zip (dl_cons (de_name 1) (dl_cons (de_slice (de_name 1) (do_some de_int) do_none) dl_nil))) (blkOk_by (own := [("one", 2), ("other", 4)]) (by rfl)) (fun _ _ _ _ _ => (dg_tup (n := 2) rfl (dgs_cons (dg_name 2 sc__law_is_lack.nd) (dgs_cons (dg_name 4 sc__law_is_lack.nd) dgs_nil)))) (fun _ _ _ _ _ => dts_nil) (fun _ _ _ _ _ => (de_cmp (od_lt hr.u0) (de_name 2) (de_name 4) (nomark _))) (by decide))) dl_nil)) (de_one (de_cmp (od_lt hr.u0) (de_callB (cd_len) T.b_len (dl_cons (de_callG G__law_near (hr.mono (by decide)) (da_cons (de_name 0) (da_cons (de_name 1) da_nil))) dl_nil)) (de_callB (cd_len) T.b_len (dl_cons (de_name 1) dl_nil)) (nomark _))))))))) ?_
  rintro as Q ⟨zs, v, rfl, hz, h16, ⟨fw, ok⟩, h⟩
  have h : Q (.dat (.bool (lackB zs v))) := h
  cases v with
  | tuple ds =>
    have hf := fw ds rfl
    have bad := fun q => lackB_bad (zs := zs) (ds := ds) q
    walk_at "dl"
    simp only [isTup, Bool.not_true]
    refine ⟨by rw [ok]; exact (okD_cells []).2, ?_⟩
    cases ds with
    | nil =>
      rw [eqvT_nil]
      exact h
    | cons d0 ds =>
      rw [eqvT_cons]
      simp only []
      refine lcD_map (fun d => .bool (isPair d)) (d0 :: ds) [] (fun d _ Q hq => ?_) (by simp at hf ⊢; omega) ?_
      · cases d with
        | tuple es =>
          walk_at "dl"
          simp only [isTup, okD_int, Bool.and_self, eqv_int, true_and]
          exact hq
        | _ => exact hq
      rw [List.nil_append]
      refine gAll_map _ _ _ ?_
      cases e : (d0 :: ds).all isPair with
      | false =>
        simp only [Bool.not_false]
        rw [bad (by
          obtain ⟨d, hd, e⟩ := List.all_eq_false.mp e
          exact ⟨d, hd, spot_pair (by simpa using e)⟩)] at h
        exact h
      | true =>
        simp only [Bool.not_true]
        have pr := List.all_eq_true.mp e
        have bad' : ∀ {u z : Cell}, cellD z ∈ d0 :: ds → cellD u ∈ d0 :: ds → (dark u == dark z) = false → Q (.dat (.bool false)) := fun h1 h2 h3 => by
          rw [lackB_two h1 h2 h3] at h
          exact h
        have bad : (∃ d ∈ d0 :: ds, spotIn zs d = false) → Q (.dat (.bool false)) := fun q => by
          rw [lackB_bad q] at h
          exact h
        refine loopD_preI (fun pre ρ => ∃ (S : List Cell) (s2 : Sl), Du s2 ∧ (pre = S.map cellD ∧ ∀ s ∈ S, s ∈ zs ∧ ∃ z0 : Cell, d0 = cellD z0 ∧ (dark s == dark z0) = true) ∧ ρ = [.dat (.tuple (zs.map cellD)), .dat (.tuple (d0 :: ds)), s2, .emp, .emp]) (d0 :: ds) _ ⟨[], .emp, .inl rfl, ⟨rfl, fun s h => nomatch h⟩, rfl⟩ ?_ ?_
        · rintro pre d post ρ N exs ⟨S, s2, d2, ⟨rfl, hS⟩, rfl⟩ hN
          have hd : d ∈ d0 :: ds := by rw [exs]; simp
          have pd := pr d hd
          cases d with
          | tuple es =>
            have z := of_decide_eq_true (show decide _ = true from pd)
            obtain ⟨x, y, rfl⟩ : ∃ x y, es = [x, y] := by
              match es, z with
              | [x, y], _ => exact ⟨x, y, rfl⟩
              | [], z => exact absurd z (by decide)
              | [_], z => exact absurd z (by simp)
              | _ :: _ :: _ :: _, z => exact absurd z (by simp; omega)
            have a0 : atI (d0 :: ds) 0 = some d0 := atI_nat (j := 0) rfl
            walk_at "dl"
            refine lcD_map (fun d => .bool (asInt d).isSome) [x, y] [] (fun d _ Q hq => ?_) (by simp) ?_
            · walk_at "dl"
              cases d <;> exact hq
            · rw [List.nil_append]
              refine gAll_map _ _ _ ?_
              have e : (asCell (.tuple [x, y])).isSome = ([x, y].all fun d => (asInt d).isSome) := by
                unfold asCell
                simp only [List.all_cons, List.all_nil, Bool.and_true]
                cases asInt x <;> cases asInt y <;> rfl
              rw [← e]
              cases ea : asCell (.tuple [x, y]) with
              | none => exact bad ⟨_, hd, by unfold spotIn; rw [ea]⟩
              | some u =>
                have eu := asCell_some ea
                rw [eu] at exs hd hN ⊢
                clear ea e eu pd z
                simp only [Option.isSome_some, Bool.not_true]
                refine ⟨ok_in zs u, ?_⟩
                rw [any_cells]
                by_cases hu : u ∈ zs
                · rw [decide_eq_true hu]
                  simp only [Bool.not_true]
                  refine ⟨u, rfl, ?_⟩
                  rw [a0]
                  have : ∃ z0, d0 = cellD z0 := by
                    cases S with
                    | nil =>
                      rw [List.map_nil, List.nil_append] at exs
                      cases exs
                      exact ⟨u, rfl⟩
                    | cons s S =>
                      obtain ⟨_, z0, e, _⟩ := hS s (by simp)
                      exact ⟨z0, e⟩
                  obtain ⟨z0, rfl⟩ := this
                  simp only []
                  refine ⟨z0, rfl, ?_⟩
                  simp only []
                  refine ⟨by rw [okD_bool, okD_bool]; rfl, ?_⟩
                  have eb : PyData.eqv (.bool (dark u)) (.bool (dark z0)) = (dark u == dark z0) := by
                    cases dark u <;> cases dark z0 <;> simp [PyData.eqv]
                  rw [eb]
                  cases ec : dark u == dark z0 with
                  | false => exact bad' (by simp) hd ec
                  | true =>
                    refine hN _ ⟨S ++ [u], .dat (cellD u), .inr ⟨_, rfl⟩, ⟨by rw [List.map_append]; rfl, fun s hs => ?_⟩, rfl⟩
                    rcases List.mem_append.mp hs with hs | hs
                    · exact hS s hs
                    · rw [List.mem_singleton.mp hs]
                      exact ⟨hu, z0, rfl, ec⟩
                · rw [decide_eq_false hu]
                  exact bad ⟨_, hd, by rw [spotIn_cell]; exact decide_eq_false hu⟩
          | _ => cases pd
        · rintro ρ ⟨S, s2, d2, ⟨eS, hS⟩, rfl⟩
          cases S with
          | nil => cases eS
          | cons s0 r =>
            have e0 : d0 = cellD s0 := by rw [List.map_cons] at eS; cases eS; rfl
            have eo : oneCol (s0 :: r) = true := by
              refine oneCol_iff.mpr ⟨by simp, dark s0, fun s hs => ?_⟩
              obtain ⟨_, z0, e, q⟩ := hS s hs
              rw [e0] at e
              have := congrArg asCell e
              rw [asCell_cell, asCell_cell] at this
              cases this
              exact eq_of_beq q
            rw [eS, lackB_cells, lotS_cells, eo, Bool.true_and, List.all_eq_true.mpr fun s hs => decide_eq_true (hS s hs).1, Bool.true_and] at h
            rw [eS] at hf ⊢
            clear bad bad' pr e ok
            obtain ⟨S, hSe⟩ : ∃ S, S = s0 :: r := ⟨_, rfl⟩
            rw [← hSe] at h hf hS ⊢
            rw [List.length_map] at hf
            walk_at "dl"
            rw [cut1, ← List.map_drop, zip_cells]
            refine lcD_pairs (fun q => .bool (ltB q.1 q.2)) (by decide) _ [] (fun q _ Q hq => ?_) (by simp; omega) ?_
            · walk_at "dl"
              refine ⟨_, _, ints2 q.1, ints2 q.2, ?_⟩
              rw [lex2]
              exact hq
            · refine gAll_map _ _ _ ?_
              rw [rising_zip]
              cases er : rising S with
              | false =>
                rw [er] at h
                exact h
              | true =>
                rw [er, Bool.true_and] at h
                refine ⟨zs, S, rfl, hz, ⟨fun s hs => (hS s hs).1, fewN hz.r h16 (rising_nodup er) fun s hs => (hS s hs).1⟩, ?_⟩
                simp only []
                rw [List.length_map, List.length_map]
                have e3 : decide (((nbL zs S).length : Int) < (S.length : Int)) = decide ((nbL zs S).length < S.length) := by
                  by_cases q : (nbL zs S).length < S.length
                  · rw [decide_eq_true q, decide_eq_true (by omega)]
                  · rw [decide_eq_false q, decide_eq_false (by omega)]
                rw [e3]
                exact h
  | _ => exact h
end
end K25



/-! Draws, lots, what is told alike. -/
namespace K25
open PySem PySem.Spec PyProof.Rows L2 DL
open PySem.W (AllAlike Sortable dataLe)
local macro_rules | `(tactic| walk_at "dl") => `(tactic| simp only [dSeq, dRet, dRetO, dRetN, dIsi, dName, dAndV, dOrV, dNotV, dAnd, dOr, dNot, dTr, dIf, dIfS, dNext, dNever, dBreak, dCont, dExpr, dSet, dOwn, dAsg, gSet, gTupD, gsCons, gsNil, dCall, dCallK, dACons, dANil, dAPot, dOp, dCB, dCons, dNil, dTup, dLst, dChain, gLen, gIx, gAbs, gInt, gTwo, gTuple, gList, dSl, gSl, dPart, dNoPart, dNeg, dRevT, startD, argSl, List.map_cons, List.map_nil, List.cons_append, List.nil_append, List.append_nil, List.getElem?_cons_zero, List.getElem?_cons_succ, List.set_cons_zero, List.set_cons_succ, List.length_cons, List.length_nil, List.replicate_succ, List.replicate_zero, dK, gCmpI, gLt, gI, gAdd, gMul, gEq, gIs, gIn, Res.data, oData, oLst, oLc, oList, oListRg, iSeq, iRg1, iRg2, iZip_, iEnumD, wipeD, dYes, dPotIx, dPotSet, dPeek, cPeek, dFor, dDat, dFreeze, dInSet, dSetSet, dSortSet, dPeekT, cPeekT, dTmpNew, dND, dNO, dNNil, dSpoil, oMul, dIxOwn, dInDic, dDicNew, dPar, dPar3, zD, zO, zC, xD, xO, RZ.sl, Res.sl, dDictP, dAppend, dExtend, dAugI, dTupOwn, oCall, dPopTo, oSorted, dSpoilAll, dGetDic, dIxDic, dInRdic, dRestDic, dPut2, dRNil, dRCons, dRDic, dCallR, dCallM, gLenD, gIsB, startR, startM, ar2Sl, dPar2z, dLenSet, gInDD, dForPop, dExtA, dSeqQ, gLtA, gSortA, gSort1, dJoin, oSplit, iSig, iEnumSD, gInS, dPopNew, dPotDiv, dCallPot, dRevL, Nat.reduceAdd, Nat.zero_add, Nat.reduceLeDiff, true_and, and_true, Bool.false_eq_true, if_true, if_false])
local macro_rules | `(tactic| walk_at "dv") => `(tactic| simp [isTup, isStr, DL.isInt, DL.isBool, isList, okD_int, okD_bool, okD_none, eqv_int, at0, at1, isNone])
section
variable {P : Program} {w : World} {K : PySem.W.Frag} {mg : Str → Option Value} {base : Heap}
theorem GZ_law_draw (T : Txt K mg) : Good P w K mg base "_law_draw" s__law_draw 1 ["pot", "many"] dfDraw := by
  refine good_mk (N := ["pot", "many", "digit"]) T.f__law_draw sc__law_draw (fun _ _ _ _ _ _ us hl => match us, hl with | [_, _], _ => rfl) dfDraw_len (fun f cdv A outer s H E hr =>
    (dss_cons (ds_if (dc_cmp (od_gt) (de_potIx 0) de_int (nomark _))
  (dss_cons (ds_potDiv 0 2 rfl sc__law_draw.nd T.b_divmod (de_name 1))
  (dss_one (ds_ret (de_name 2))))
  dss_nil)
  (dss_cons (ds_potSet 0 (de_op od_mod (de_callTy (cd_int) T.b_int (dl_cons (de_op od_add (de_op od_mul (de_potIx 0) de_int) de_int) dl_nil)) de_int))
  (dss_one (ds_ret (de_op od_mod (de_callTy (cd_int) T.b_int (dl_cons (de_op od_div (de_op od_mod (de_callTy (cd_int) T.b_int (dl_cons (de_op od_mul (de_potIx 0) (de_potIx 0)) dl_nil)) de_int) de_int) dl_nil)) (de_name 1))))))) ?_
  intro as Q h
  unfold dfDraw at h
  split at h
  · rename_i m
    obtain ⟨⟨m0, m1⟩, h⟩ := h
    walk_at "dl"
    have cd : ∀ n : Int, CDivN n m := fun n => ⟨by omega, by omega⟩
    refine ⟨.inl trivial, fun n n0 _ => ?_⟩
    cases decide (0 < n) with
    | true => exact fun n n0 => ⟨n0, ⟨m0, m1⟩, fun r r0 r1 => h r r0 r1⟩
    | false =>
      refine ⟨.inr trivial, fun a a0 a1 => ⟨.inr ⟨by decide, by decide⟩, by decide, ⟨(fmod_in (by decide)).1, .inr ?_⟩, .inr trivial, fun b b0 b1 => ⟨.inr trivial, fun c c0 c1 => ⟨.inl ⟨?_, ?_⟩, by decide, ⟨by decide, by decide⟩, by omega, ?_⟩⟩⟩⟩
      · have f := fun i : Int => (fmod_in (i := i) (m := 2147483587) (by decide)).2
        first
          | (have := f (a * 40692 + 11329); omega)
          | (have := f (a * 40692 + 11353); omega)
          | (have := f (a * 40692 + 11369); omega)
          | (have := f (a * 40692 + 11351); omega)
          | (have := f (a * 40692 + 11383); omega)
          | (have := f (a * 40692 + 11393); omega)
      · have := b1 trivial
        have e : (2 : Int) ^ 64 = 18446744073709551616 := by decide
        omega
      · have := b1 trivial
        have e : (2 : Int) ^ 64 = 18446744073709551616 := by decide
        omega
      · exact h _ (fmod_in m0).1 (fmod_in m0).2
  · exact h.elim
theorem GZ_law_pick (T : Txt K mg) : Good P w K mg base "_law_pick" s__law_pick 2 ["pot", "some"] dfPick := by
  have G__law_draw := GZ_law_draw (P := P) (w := w) (base := base) T
  refine good_mk (N := ["pot", "some"]) T.f__law_pick sc__law_pick (fun _ _ _ _ _ _ us hl => match us, hl with | [_, _], _ => rfl) dfPick_len (fun f cdv A outer s H E hr =>
    (dss_one (ds_ret (de_ix (de_name 1) (de_callG G__law_draw (hr.mono (by decide)) (da_pot 0 (da_cons (de_callB (cd_len) T.b_len (dl_cons (de_name 1) dl_nil)) da_nil))))))) ?_
  intro as Q h
  unfold dfPick at h
  split at h
  · rename_i ds
    obtain ⟨⟨m0, m1⟩, h⟩ := h
    walk_at "dl"
    refine ⟨by omega, fun n n0 n1 => ?_⟩
    obtain ⟨d, e, hd⟩ := atI_mem n0 n1
    simp only [e]
    exact h d hd
  · rename_i ds
    obtain ⟨⟨m0, m1⟩, h⟩ := h
    walk_at "dl"
    refine ⟨by omega, fun n n0 n1 => ?_⟩
    obtain ⟨d, e, hd⟩ := atI_mem n0 n1
    simp only [e]
    exact h d hd
  · exact h.elim
def dfPotK : DF := fun as Q => ∃ (ns : List Int) (k : Nat), as = [.d (.list (ns.map .int)), .d (.int (k : Nat))] ∧ k < 2 ∧ ∀ a b : Int, 0 ≤ a → 0 ≤ b → b < 4294967296 → Q (.own [.int a, .int b])
theorem dfPotK_len : ∀ as Q, dfPotK as Q → as.length = 2 := by
  rintro as Q ⟨ns, k, rfl, _⟩
  rfl
theorem GZ_law_pot (T : Txt K mg) : Good P w K mg base "_law_pot" s__law_pot 1 ["script", "k"] dfPotK := by
  refine good_mk (N := ["script", "k", "cell"]) T.f__law_pot sc__law_pot (fun _ _ _ _ _ _ us hl => match us, hl with | [_, _], _ => rfl) dfPotK_len (fun f cdv A outer s H E hr =>
    (dss_cons (ds_set 2 sc__law_pot.nd (de_if (dc_cmp (od_lt hr.u0) (de_name 1) (de_callB (cd_len) T.b_len (dl_cons (de_name 0) dl_nil)) (nomark _)) (de_callB (cd_abs) T.b_abs (dl_cons (de_ix (de_name 0) (de_name 1)) dl_nil)) (de_op od_add (de_op od_mul de_int (de_name 1)) de_int)))
  (dss_one (ds_retO (do_lst (dl_cons (de_callB (cd_max rfl) T.b_max (dl_cons de_int (dl_cons (de_op od_sub (de_name 2) (de_op od_pow de_int de_int)) dl_nil))) (dl_cons (de_op od_add (de_op od_mod (de_callTy (cd_int) T.b_int (dl_cons (de_op od_add (de_op od_add (de_op od_mul (de_op od_mod (de_callTy (cd_int) T.b_int (dl_cons (de_name 2) dl_nil)) de_int) de_int) (de_op od_mul de_int (de_name 1))) de_int) dl_nil)) de_int) de_int) dl_nil))))))) ?_
  rintro as Q ⟨ns, k, rfl, hk, h⟩
  walk_at "dl"
  have pow : CPow 10 18 := ⟨by decide, by decide, by decide⟩
  have mul : ∀ i : Int, CMul i 40014 := fun i => .inr ⟨by decide, by decide⟩
  have mk : ∀ c : Int, CMul c (k : Int) := fun c => .inr ⟨by omega, by omega⟩
  have fin : ∀ c d : Int, 0 ≤ c → Q (.own [.int (if c - 10 ^ Int.toNat 18 > 0 then c - 10 ^ Int.toNat 18 else 0), .int ((d.fmod 2147483563) + 1)]) := fun c d hc => by
    have f := fmod_in (i := d) (m := 2147483563) (by decide)
    refine h _ _ ?_ (by omega) (by omega)
    split <;> omega
  by_cases lt : (k : Int) < ((ns.map PyData.int).length : Nat)
  · simp only [decide_eq_true lt]
    obtain ⟨d, e, hd⟩ := atI_mem (ds := ns.map PyData.int) (n := (k : Int)) (by omega) lt
    obtain ⟨i, _, rfl⟩ := List.mem_map.mp hd
    simp only [e]
    exact ⟨pow, by decide, mul _, mk _, by decide, fin _ _ (by split <;> omega)⟩
  · simp only [decide_eq_false lt]
    exact ⟨mk _, pow, by decide, mul _, mk _, by decide, fin _ _ (by omega)⟩
def dfLotOf : DF := fun as Q => ∃ zs : List Cell, as = [.p, .d (.tuple (zs.map cellD))] ∧ zs.length ≤ 40 ∧ ∀ ws : List Cell, ws.Sublist zs → Q (.dat (.tuple (ws.map cellD)))
theorem dfLotOf_len : ∀ as Q, dfLotOf as Q → as.length = 2 := by
  rintro as Q ⟨zs, rfl, _⟩
  rfl
theorem G__law_lot (T : Txt K mg) : Good P w K mg base "_law_lot" s__law_lot 2 ["pot", "cells"] dfLotOf := by
  have G__law_draw := GZ_law_draw (P := P) (w := w) (base := base) T
  refine good_mk (N := ["pot", "cells", "cell"]) T.f__law_lot sc__law_lot (fun _ _ _ _ _ _ us hl => match us, hl with | [_, _], _ => rfl) dfLotOf_len (fun f cdv A outer s H E hr =>
    (dss_one (ds_ret (de_callTy (cd_tuple) T.b_tuple (dl_cons (DO.de (do_lc (own := [("cell", 2)]) rfl sc__law_lot.nd (di_seq (de_name 1)) (blkOk_by (own := [("cell", 2)]) (by rfl)) (fun _ _ _ _ _ => (dg_name 2 sc__law_lot.nd)) (fun _ _ _ _ _ => (dts_one (dc_cmp (od_gt) (de_callG G__law_draw (hr.mono (by decide)) (da_pot 0 (da_cons de_int da_nil))) de_int (nomark _)))) (fun _ _ _ _ _ => (de_name 2)) (by decide))) dl_nil))))) ?_
  rintro as Q ⟨zs, rfl, hl, h⟩
  walk_at "dl"
  refine lcD_inv (fun ds acc => ∃ rest ws : List Cell, ds = rest.map cellD ∧ acc = ws.map cellD ∧ (ws ++ rest).Sublist zs) _ _ ⟨zs, [], rfl, rfl, List.Sublist.refl _⟩ (by simp; omega) (fun d ds acc N hI hl2 hN => ?_) (fun acc hI => ?_)
  · obtain ⟨rest, ws, er, rfl, sb⟩ := hI
    cases rest with
    | nil => cases er
    | cons z rest =>
      rw [List.map_cons] at er
      cases er
      walk_at "dl"
      refine ⟨by decide, fun n n0 n1 => ?_⟩
      simp only []
      cases decide (0 < n) with
      | true =>
        refine ⟨hl2, hN _ ⟨rest, ws ++ [z], rfl, by rw [List.map_append]; rfl, by simpa using sb⟩ (by simp)⟩
      | false =>
        refine hN _ ⟨rest, ws, rfl, rfl, ?_⟩ (by simp)
        exact List.Sublist.trans (List.Sublist.append (List.Sublist.refl ws) (List.sublist_cons_self z rest)) sb
  · obtain ⟨rest, ws, er, rfl, sb⟩ := hI
    have : rest = [] := List.map_eq_nil_iff.mp er.symm
    subst this
    rw [List.append_nil] at sb
    exact h ws sb
end
end K25



/-! Drawn floors. -/
namespace K25
open PySem PySem.Spec PyProof.Rows L2 DL
open PySem.W (AllAlike Sortable dataLe)
local macro_rules | `(tactic| walk_at "dl") => `(tactic| simp only [dSeq, dRet, dRetO, dRetN, dIsi, dName, dAndV, dOrV, dNotV, dAnd, dOr, dNot, dTr, dIf, dIfS, dNext, dNever, dBreak, dCont, dExpr, dSet, dOwn, dAsg, gSet, gTupD, gsCons, gsNil, dCall, dCallK, dACons, dANil, dAPot, dOp, dCB, dCons, dNil, dTup, dLst, dChain, gLen, gIx, gAbs, gInt, gTwo, gTuple, gList, dSl, gSl, dPart, dNoPart, dNeg, dRevT, startD, argSl, List.map_cons, List.map_nil, List.cons_append, List.nil_append, List.append_nil, List.getElem?_cons_zero, List.getElem?_cons_succ, List.set_cons_zero, List.set_cons_succ, List.length_cons, List.length_nil, List.replicate_succ, List.replicate_zero, dK, gCmpI, gLt, gI, gAdd, gMul, gEq, gIs, gIn, Res.data, oData, oLst, oLc, oList, oListRg, iSeq, iRg1, iRg2, iZip_, iEnumD, wipeD, dYes, dPotIx, dPotSet, dPeek, cPeek, dFor, dDat, dFreeze, dInSet, dSetSet, dSortSet, dPeekT, cPeekT, dTmpNew, dND, dNO, dNNil, dSpoil, oMul, dIxOwn, dInDic, dDicNew, dPar, dPar3, zD, zO, zC, xD, xO, RZ.sl, Res.sl, dDictP, dAppend, dExtend, dAugI, dTupOwn, oCall, dPopTo, oSorted, dSpoilAll, dGetDic, dIxDic, dInRdic, dRestDic, dPut2, dRNil, dRCons, dRDic, dCallR, dCallM, gLenD, gIsB, startR, startM, ar2Sl, dPar2z, dLenSet, gInDD, dForPop, dExtA, dSeqQ, gLtA, gSortA, gSort1, dJoin, oSplit, iSig, iEnumSD, gInS, dPopNew, dPotDiv, dCallPot, dRevL, Nat.reduceAdd, Nat.zero_add, Nat.reduceLeDiff, true_and, and_true, Bool.false_eq_true, if_true, if_false])
local macro_rules | `(tactic| walk_at "dv") => `(tactic| simp [isTup, isStr, DL.isInt, DL.isBool, isList, okD_int, okD_bool, okD_none, eqv_int, at0, at1, isNone])
theorem rg_cons {m j : Nat} {d : PyData} {ds : List PyData} (e : d :: ds = (rgD 0 m).drop j) : j < m ∧ d = .int (0 + (j : Nat)) ∧ ds = (rgD 0 m).drop (j + 1) := by
  have hj : j < m := by
    have := congrArg List.length e
    simp [rgD] at this
    omega
  have hl : j < (rgD 0 m).length := by simpa [rgD] using hj
  rw [List.drop_eq_getElem_cons hl] at e
  injection e with e1 e2
  refine ⟨hj, ?_, e2⟩
  rw [e1]
  simp [rgD]
theorem box_len {dn rt : Int} {ws : List Cell} (nd : ws.Nodup) (h : ∀ z ∈ ws, (dn ≤ z.1 ∧ z.1 < dn + 4) ∧ rt ≤ z.2 ∧ z.2 < rt + 4) : ws.length ≤ 16 := by
  have := nodup_le ws ([0, 1, 2, 3].flatMap fun i => [0, 1, 2, 3].map fun j => (dn + i, rt + j)) nd fun z hz => by
    have b := h z hz
    rw [List.mem_flatMap]
    refine ⟨z.1 - dn, ?_, List.mem_map.mpr ⟨z.2 - rt, ?_, Prod.ext (by simp only; omega) (by simp only; omega)⟩⟩
    · simp only [List.mem_cons, List.not_mem_nil, or_false]; omega
    · simp only [List.mem_cons, List.not_mem_nil, or_false]; omega
  simpa using this
section
variable {P : Program} {w : World} {K : PySem.W.Frag} {mg : Str → Option Value} {base : Heap}
def NoP (zs : List Cell) (z : Cell) : Prop := ∀ far, far = z.2 - 1 ∨ far = z.2 + 1 → ¬ ((z.1 + 1, far) ∈ zs ∧ (z.1, far) ∉ zs ∧ (z.1 + 1, z.2) ∉ zs)
def AtP (zs : List Cell) (c : Cell) : Prop := ∃ z ∈ zs, c.1 = z.1 ∧ (z.1 + 1, c.2) ∈ zs ∧ c ∉ zs ∧ (c.2 = z.2 - 1 ∨ c.2 = z.2 + 1) ∧ (z.1 + 1, z.2) ∉ zs
def dfPinchK : DF := fun as Q => ∃ zs : List Cell, as = [.d (.list (zs.map cellD))] ∧ (∀ c, AtP zs c → Q (.dat (cellD c))) ∧ ((∀ z ∈ zs, NoP zs z) → Q (.dat .none))
theorem dfPinchK_len : ∀ as Q, dfPinchK as Q → as.length = 1 := by
  rintro as Q ⟨zs, rfl, _⟩
  rfl
theorem GZ_law_pinch (T : Txt K mg) : Good P w K mg base "_law_pinch" s__law_pinch 1 ["cells"] dfPinchK := by
  refine good_mk (N := ["cells", "row", "column", "far"]) T.f__law_pinch sc__law_pinch (fun _ _ _ _ _ _ us hl => match us, hl with | [_], _ => rfl) dfPinchK_len (fun f cdv A outer s H E hr =>
    (dss_cons (ds_for PassesOwn.never rfl (di_seq (de_name 0)) (dg_tup (n := 2) rfl (dgs_cons (dg_name 1 sc__law_pinch.nd) (dgs_cons (dg_name 2 sc__law_pinch.nd) dgs_nil)))
  (dss_one (ds_for PassesOwn.never rfl (di_seq (de_tup (dl_cons (de_op od_sub (de_name 2) de_int) (dl_cons (de_op od_add (de_name 2) de_int) dl_nil)))) (dg_name 3 sc__law_pinch.nd)
  (dss_one (ds_if (dc_bool (dw_and (dc_cmp (od_in hr.u5) (de_tup (dl_cons (de_op od_add (de_name 1) de_int) (dl_cons (de_name 3) dl_nil))) (de_name 0) (by rfl)) (dw_and (dc_cmp (od_nin hr.u5) (de_tup (dl_cons (de_name 1) (dl_cons (de_name 3) dl_nil))) (de_name 0) (by rfl)) (dw_and1 (dc_cmp (od_nin hr.u5) (de_tup (dl_cons (de_op od_add (de_name 1) de_int) (dl_cons (de_name 2) dl_nil))) (de_name 0) (by rfl))))))
  (dss_one (ds_ret (de_tup (dl_cons (de_name 1) (dl_cons (de_name 3) dl_nil)))))
  dss_nil)))))
  (dss_one (ds_ret de_non)))) ?_
  rintro as Q ⟨zs, rfl, h1, h2⟩
  walk_at "dl"
  refine loopD_pre cellD (fun pre ρ => ∃ s1 s2 s3, (∀ z ∈ pre, NoP zs z) ∧ ρ = [.dat (.list (zs.map cellD)), s1, s2, s3]) zs _ ⟨_, _, _, (fun z h => nomatch h), rfl⟩ ?_ ?_
  · rintro pre z post ρ N exs ⟨s1, s2, s3, hp, rfl⟩ hN
    have hz : z ∈ zs := by rw [exs]; simp
    walk_at "dl"
    refine loopD_pre PyData.int (fun pre2 ρ => ∃ s3, (∀ far ∈ pre2, ¬ ((z.1 + 1, far) ∈ zs ∧ (z.1, far) ∉ zs ∧ (z.1 + 1, z.2) ∉ zs)) ∧ ρ = [.dat (.list (zs.map cellD)), .dat (.int z.1), .dat (.int z.2), s3]) [z.2 - 1, z.2 + 1] _ ⟨s3, (fun z h => nomatch h), rfl⟩ ?_ ?_
    · rintro pre2 far post2 ρ N2 exs2 ⟨s3, hp2, rfl⟩ hN2
      have hfar : far = z.2 - 1 ∨ far = z.2 + 1 := by
        have : far ∈ [z.2 - 1, z.2 + 1] := by rw [exs2]; simp
        simpa using this
      have more : ¬ ((z.1 + 1, far) ∈ zs ∧ (z.1, far) ∉ zs ∧ (z.1 + 1, z.2) ∉ zs) → N2 [.dat (.list (zs.map cellD)), .dat (.int z.1), .dat (.int z.2), .dat (.int far)] := fun q => hN2 _ ⟨_, fun x hx => by
        rcases List.mem_append.mp hx with hx | hx
        · exact hp2 x hx
        · rw [List.mem_singleton.mp hx]; exact q, rfl⟩
      walk_at "dl"
      have oc : ∀ u v : Int, (okD (.tuple [.int u, .int v]) && okD (.list (zs.map cellD))) = true := fun u v => ok_inL zs (u, v)
      have ac : ∀ u v : Int, ((zs.map cellD).any fun d => PyData.eqv d (.tuple [.int u, .int v])) = decide ((u, v) ∈ zs) := fun u v => any_cells zs (u, v)
      rw [oc, oc, oc, ac, ac, ac]
      simp only [true_and]
      by_cases q1 : (z.1 + 1, far) ∈ zs
      · rw [decide_eq_true q1]
        by_cases q2 : (z.1, far) ∈ zs
        · rw [decide_eq_true q2]
          exact more fun q => q.2.1 q2
        · rw [decide_eq_false q2]
          by_cases q3 : (z.1 + 1, z.2) ∈ zs
          · rw [decide_eq_true q3]
            exact more fun q => q.2.2 q3
          · rw [decide_eq_false q3]
            exact h1 (z.1, far) ⟨z, hz, rfl, q1, q2, hfar, q3⟩
      · rw [decide_eq_false q1]
        exact more fun q => q1 q.1
    · rintro ρ ⟨s3, hp2, rfl⟩
      refine hN _ ⟨_, _, _, fun y hy => ?_, rfl⟩
      rcases List.mem_append.mp hy with hy | hy
      · exact hp y hy
      · rw [List.mem_singleton.mp hy]
        exact fun far hf => hp2 far (by simpa using hf)
  · rintro ρ ⟨s1, s2, s3, hp, rfl⟩
    exact h2 hp
def dfFloorK : DF := fun as Q => ∃ odds : Nat, as = [.p, .d (.int 4), .d (.int 4), .d (.int (odds : Nat))] ∧ (1 ≤ odds ∧ odds ≤ 1000) ∧ ∀ zs, FloorOk zs → zs.length ≤ 16 → Q (.dat (floorD zs))
theorem dfFloorK_len : ∀ as Q, dfFloorK as Q → as.length = 4 := by
  rintro as Q ⟨odds, rfl, _⟩
  rfl
theorem GZ_law_floor (T : Txt K mg) : Good P w K mg base "_law_floor" s__law_floor 2 ["pot", "rows", "columns", "odds"] dfFloorK := by
  have G__law_draw := GZ_law_draw (P := P) (w := w) (base := base) T
  have G__law_pinch := GZ_law_pinch (P := P) (w := w) (base := base) T
  refine good_mk (N := ["pot", "rows", "columns", "odds", "down", "right", "cells", "row", "turn", "spot", "column"]) T.f__law_floor sc__law_floor (fun _ _ _ _ _ _ us hl => match us, hl with | [_, _, _, _], _ => rfl) dfFloorK_len (fun f cdv A outer s H E hr =>
    (dss_cons (ds_asg (de_tup (dl_cons (de_callG G__law_draw (hr.mono (by decide)) (da_pot 0 (da_cons de_int da_nil))) (dl_cons (de_callG G__law_draw (hr.mono (by decide)) (da_pot 0 (da_cons de_int da_nil))) dl_nil))) (dg_tup (n := 2) rfl (dgs_cons (dg_name 4 sc__law_floor.nd) (dgs_cons (dg_name 5 sc__law_floor.nd) dgs_nil))))
  (dss_cons (ds_own 6 sc__law_floor.nd (do_lst dl_nil))
  (dss_cons (ds_for PassesOwn.never rfl (di_rg1 T.b_range (dl_cons (de_op od_add de_int (de_callG G__law_draw (hr.mono (by decide)) (da_pot 0 (da_cons (de_name 1) da_nil)))) dl_nil)) (dg_name 7 sc__law_floor.nd)
  (dss_one (ds_extend 6 (DO.de (do_lc (own := [("column", 10)]) rfl sc__law_floor.nd (di_rg1 T.b_range (dl_cons (de_op od_add de_int (de_callG G__law_draw (hr.mono (by decide)) (da_pot 0 (da_cons (de_name 2) da_nil)))) dl_nil)) (blkOk_by (own := [("column", 10)]) (by rfl)) (fun _ _ _ _ _ => (dg_name 10 sc__law_floor.nd)) (fun _ _ _ _ _ => (dts_one (dc_cmp (od_gt) (de_callG G__law_draw (hr.mono (by decide)) (da_pot 0 (da_cons (de_name 3) da_nil))) de_int (nomark _)))) (fun _ _ _ _ _ => (de_tup (dl_cons (de_op od_add (de_name 4) (de_name 7)) (dl_cons (de_op od_add (de_name 5) (de_name 10)) dl_nil)))) (by decide))))))
  (dss_cons (ds_freeze 6 (h := (ds_set 6 sc__law_floor.nd (de_if (dc_cmp (od_ne hr.u) (de_name 6) (de_lst dl_nil) (nomark _)) (de_name 6) (de_lst (dl_cons (de_tup (dl_cons (de_name 4) (dl_cons (de_name 5) dl_nil))) dl_nil))))))
  (dss_cons (ds_for PassesOwn.never rfl (di_rg1 T.b_range (dl_cons (de_op od_mul (de_name 1) (de_name 2)) dl_nil)) (dg_name 8 sc__law_floor.nd)
  (dss_cons (ds_set 9 sc__law_floor.nd (de_callG G__law_pinch (hr.mono (by decide)) (da_cons (de_name 6) da_nil)))
  (dss_one (ds_set 6 sc__law_floor.nd (de_if (dc_cmp (od_isNot) (de_name 9) de_non (nomark _)) (de_op od_add (de_name 6) (de_lst (dl_cons (de_name 9) dl_nil))) (de_name 6))))))
  (dss_one (ds_ret (de_tup (dl_cons de_str (dl_cons (de_callTy (cd_tuple) T.b_tuple (dl_cons (de_callB (cd_sorted hr.u) T.b_sorted (dl_cons (de_name 6) dl_nil)) dl_nil)) dl_nil))))))))))) ?_
  rintro as Q ⟨odds, rfl, ho, h⟩
  walk_at "dl"
  refine ⟨⟨by decide, by decide⟩, fun dn dn0 dn1 => ⟨⟨by decide, by decide⟩, fun rt rt0 rt1 => ?_⟩⟩
  refine ⟨⟨by decide, by decide⟩, fun hi hi0 hi1 => ?_⟩
  simp only []
  obtain ⟨n, rfl⟩ := Int.eq_ofNat_of_zero_le hi0
  have en : (1 + (n : Int)).toNat = n + 1 := by omega
  rw [en]
  refine ⟨⟨by omega, by omega⟩, loopD_inv (fun k ρ => ∃ (ws : List Cell) (s7 : Sl), (Du s7 ∧ ws.Nodup ∧ ∀ z ∈ ws, (dn ≤ z.1 ∧ z.1 < dn + (k : Nat)) ∧ rt ≤ z.2 ∧ z.2 < rt + 4) ∧ k ≤ 4 ∧ ρ = [.pot, .dat (.int 4), .dat (.int 4), .dat (.int odds), .dat (.int dn), .dat (.int rt), .own (ws.map cellD), s7, .emp, .emp, .emp]) _ 0 _
    ⟨[], .emp, ⟨.inl rfl, .nil, fun z h => nomatch h⟩, by omega, rfl⟩ (fun k d ρ N hk ⟨ws, s7, ⟨d7, nd, bx⟩, k4, er⟩ hN => ?_) (fun ρ ⟨ws, s7, ⟨d7, nd, bx⟩, k4, er⟩ => ?_)⟩
  · subst er
    rw [Nat.zero_add] at bx hN k4
    have kn : k < n + 1 := by
      have := (List.getElem?_eq_some_iff.mp hk).1
      simpa [rgD] using this
    have ed : d = .int (0 + (k : Nat)) := by
      unfold rgD at hk
      rw [List.getElem?_map, List.getElem?_range kn] at hk
      exact (Option.some.inj hk).symm
    subst ed
    have wl : ws.length ≤ 16 := by
      exact box_len nd (fun z hz => ⟨⟨(bx z hz).1.1, by have := (bx z hz).1.2; omega⟩, (bx z hz).2⟩)
    walk_at "dl"
    refine ⟨⟨by decide, by decide⟩, fun m m0 m1 => ?_⟩
    simp only []
    obtain ⟨m, rfl⟩ := Int.eq_ofNat_of_zero_le m0
    have em : (1 + (m : Int)).toNat = m + 1 := by omega
    rw [em]
    refine ⟨⟨by omega, by omega⟩, lcD_inv (fun ds acc => ∃ (j : Nat) (us : List Cell), ds = (rgD 0 (m + 1)).drop j ∧ j ≤ m + 1 ∧ acc = us.map cellD ∧ us.Nodup ∧ ∀ z ∈ us, z.1 = dn + (0 + (k : Nat)) ∧ rt ≤ z.2 ∧ z.2 < rt + (j : Nat)) _ _ ⟨0, [], rfl, by omega, rfl, .nil, fun z h => nomatch h⟩ (by simp [rgD]; omega) (fun d ds acc N2 hI hl2 hN2 => ?_) (fun acc hI => ?_)⟩
    · obtain ⟨j, us, ej, jm, rfl, ndu, bu⟩ := hI
      obtain ⟨jl, rfl, rfl⟩ := rg_cons ej
      walk_at "dl"
      refine ⟨⟨by omega, by omega⟩, fun q q0 q1 => ?_⟩
      simp only []
      cases decide (0 < q) with
      | true =>
        refine ⟨hl2, hN2 _ ⟨j + 1, us ++ [(dn + (0 + (k : Nat)), rt + (0 + (j : Nat)))], rfl, by omega, by rw [List.map_append]; rfl, ?_, fun z hz => ?_⟩ (by simp)⟩
        · rw [List.nodup_append]
          refine ⟨ndu, by simp, fun a ha b hb e => ?_⟩
          rw [List.mem_singleton.mp hb] at e
          have := (bu a ha).2.2
          rw [e] at this
          simp only at this
          omega
        · rcases List.mem_append.mp hz with hz | hz
          · have := bu z hz
            exact ⟨this.1, this.2.1, by omega⟩
          · rw [List.mem_singleton.mp hz]
            exact ⟨rfl, by simp only; omega, by simp only; omega⟩
      | false =>
        refine hN2 _ ⟨j + 1, us, rfl, by omega, rfl, ndu, fun z hz => ?_⟩ (by simp)
        have := bu z hz
        exact ⟨this.1, this.2.1, by omega⟩
    · obtain ⟨j, us, _, jm, rfl, ndu, bu⟩ := hI
      have ul : us.length ≤ 16 := box_len (dn := dn + (0 + (k : Nat))) (rt := rt) ndu fun z hz => by
        have := bu z hz
        omega
      have nt : noTmp [.pot, .dat (.int 4), .dat (.int 4), .dat (.int odds), .dat (.int dn), .dat (.int rt), .own (ws.map cellD), .dat (.int (0 + (k : Nat))), .emp, .emp, .emp] = true := rfl
      refine ⟨⟨nt, by rw [List.length_map, List.length_map]; omega⟩, hN _ ⟨ws ++ us, .dat (.int (0 + (k : Nat))), ⟨.inr ⟨_, rfl⟩, ?_, fun z hz => ?_⟩, by omega, by rw [List.map_append]⟩⟩
      · rw [List.nodup_append]
        refine ⟨nd, ndu, fun a ha b hb e => ?_⟩
        have h1 := (bx a ha).1.2
        have h2 := (bu b hb).1
        rw [e] at h1
        omega
      · rcases List.mem_append.mp hz with hz | hz
        · have := bx z hz
          omega
        · have := bu z hz
          omega
  · subst er
    have bx' : ∀ z ∈ ws, (dn ≤ z.1 ∧ z.1 < dn + 4) ∧ rt ≤ z.2 ∧ z.2 < rt + 4 := fun z hz => by
      have := bx z hz
      omega
    clear bx
    have tail : ∀ us : List Cell, us.Nodup → (∀ z ∈ us, (dn ≤ z.1 ∧ z.1 < dn + 4) ∧ rt ≤ z.2 ∧ z.2 < rt + 4) → us ≠ [] → loopD (gSet 8)
        (dSeq (dSet 9 (dCall dfPinchK (dACons (dName 6) dANil)))
          (dSet 6 (dIf (dTr (dOp (gIs true) (dName 9) (dK PyData.none))) (dOp gAdd (dName 6) (dLst (dCons (dName 9) dNil))) (dName 6))))
        { nx := dRet (dTup (dCons (dK (PyData.str (Str.ofString "floor"))) (dCons (dCB gTuple (dCons (dCB gSort (dCons (dName 6) dNil)) dNil)) dNil))) { nx := fun x => Q (Res.dat PyData.none), rt := Q }, rt := Q }
        (rgD 0 (4 * 4 : Int).toNat) [.pot, .dat (.int 4), .dat (.int 4), .dat (.int odds), .dat (.int dn), .dat (.int rt), .dat (.list (us.map cellD)), s7, .emp, .emp, .emp] := by
      intro us ndu bu neu
      refine loopD_inv (fun k ρ => ∃ (us : List Cell) (s8 s9 : Sl), (us.Nodup ∧ (∀ z ∈ us, (dn ≤ z.1 ∧ z.1 < dn + 4) ∧ rt ≤ z.2 ∧ z.2 < rt + 4) ∧ us ≠ []) ∧ ((∀ z ∈ us, NoP us z) ∨ k + 1 ≤ us.length) ∧ ρ = [.pot, .dat (.int 4), .dat (.int 4), .dat (.int odds), .dat (.int dn), .dat (.int rt), .dat (.list (us.map cellD)), s7, s8, s9, .emp]) _ 0 _
        ⟨us, .emp, .emp, ⟨ndu, bu, neu⟩, .inr (List.length_pos_iff.mpr neu), rfl⟩ (fun k d ρ N hk ⟨us, s8, s9, ⟨ndu, bu, neu⟩, st, er⟩ hN => ?_) (fun ρ ⟨us, s8, s9, ⟨ndu, bu, neu⟩, st, er⟩ => ?_)
      · subst er
        have ul := box_len ndu bu
        walk_at "dl"
        refine ⟨us, rfl, fun c ⟨z, hz, e1, e2, e3, e4, e5⟩ => ?_, fun np => ?_⟩
        · simp only [isNone, Bool.not_false]
          refine ⟨by rw [List.length_map]; omega, hN _ ⟨us ++ [c], .dat d, .dat (cellD c), ⟨?_, fun y hy => ?_, by simp⟩, .inr ?_, by rw [List.map_append]; rfl⟩⟩
          · rw [List.nodup_append]
            exact ⟨ndu, by simp, fun a ha b hb e => e3 (by rw [← List.mem_singleton.mp hb, ← e]; exact ha)⟩
          · rcases List.mem_append.mp hy with hy | hy
            · exact bu y hy
            · rw [List.mem_singleton.mp hy]
              have b1 := bu z hz
              have b2 := bu _ e2
              simp only at b2
              rw [e1]
              exact ⟨b1.1, b2.2⟩
          · have := st.resolve_left fun q => ?_
            · simp only [List.length_append, List.length_singleton]; omega
            · exact q z hz c.2 e4 ⟨e2, fun m => e3 (by rw [show c = (z.1, c.2) from Prod.ext e1 rfl]; exact m), e5⟩
        · simp only [isNone, Bool.not_true]
          exact hN _ ⟨us, .dat d, .dat .none, ⟨ndu, bu, neu⟩, .inl np, rfl⟩
      · subst er
        have ul := box_len ndu bu
        have np := st.resolve_right (by rw [show (rgD 0 (4 * 4 : Int).toNat).length = 16 by decide]; omega)
        walk_at "dl"
        refine ⟨sort_ok us (by omega), ?_⟩
        rw [sort_cells]
        have pm := List.mergeSort_perm us leC
        refine h _ ⟨sorted_rising ndu, fun z hz => ?_, by rw [pm.length_eq]; omega, fun e => neu ?_, ?_⟩ (by rw [pm.length_eq]; omega)
        · have := bu z (sorted_mem.mp hz)
          omega
        · have := pm.length_eq
          rw [e] at this
          exact List.eq_nil_of_length_eq_zero this.symm
        · cases e : pinchOf (us.mergeSort leC) with
          | none => rfl
          | some q =>
            obtain ⟨z, s, hs, rfl, g1, g2, g3, g4⟩ := pinch_found e
            rw [sorted_mem] at g1 g2 g3 g4
            exact absurd ⟨g2, g3, g4⟩ (np z g1 (z.2 + s) (by omega))
    have nt : noTmp [.pot, .dat (.int 4), .dat (.int 4), .dat (.int odds), .dat (.int dn), .dat (.int rt), .own (ws.map cellD), s7, .emp, .emp, .emp] = true := by
      rcases d7 with rfl | ⟨_, rfl⟩ <;> rfl
    walk_at "dl"
    refine ⟨nt, by rw [(okD_cells ws).1]; exact (okD_cells []).1, ?_⟩
    have ee := eqv_cellsL ws []
    rw [List.map_nil] at ee
    rw [ee]
    by_cases we : ws = []
    · rw [decide_eq_true we]
      exact ⟨.inl ⟨by decide, by decide⟩, ⟨by decide, by decide⟩, tail [(dn, rt)] (by simp) (fun z hz => by rw [List.mem_singleton.mp hz]; exact ⟨⟨Int.le_refl _, by simp only; omega⟩, Int.le_refl _, by simp only; omega⟩) (by simp)⟩
    · rw [decide_eq_false we]
      exact ⟨.inl ⟨by decide, by decide⟩, ⟨by decide, by decide⟩, tail ws nd bx' we⟩
end
end K25



/-! What is told is what is due. -/
namespace K25
open PySem PySem.Spec PyProof.Rows L2 DL
open PySem.W (AllAlike Sortable dataLe)
local macro_rules | `(tactic| walk_at "dl") => `(tactic| simp only [dSeq, dRet, dRetO, dRetN, dIsi, dName, dAndV, dOrV, dNotV, dAnd, dOr, dNot, dTr, dIf, dIfS, dNext, dNever, dBreak, dCont, dExpr, dSet, dOwn, dAsg, gSet, gTupD, gsCons, gsNil, dCall, dCallK, dACons, dANil, dAPot, dOp, dCB, dCons, dNil, dTup, dLst, dChain, gLen, gIx, gAbs, gInt, gTwo, gTuple, gList, dSl, gSl, dPart, dNoPart, dNeg, dRevT, startD, argSl, List.map_cons, List.map_nil, List.cons_append, List.nil_append, List.append_nil, List.getElem?_cons_zero, List.getElem?_cons_succ, List.set_cons_zero, List.set_cons_succ, List.length_cons, List.length_nil, List.replicate_succ, List.replicate_zero, dK, gCmpI, gLt, gI, gAdd, gMul, gEq, gIs, gIn, Res.data, oData, oLst, oLc, oList, oListRg, iSeq, iRg1, iRg2, iZip_, iEnumD, wipeD, dYes, dPotIx, dPotSet, dPeek, cPeek, dFor, dDat, dFreeze, dInSet, dSetSet, dSortSet, dPeekT, cPeekT, dTmpNew, dND, dNO, dNNil, dSpoil, oMul, dIxOwn, dInDic, dDicNew, dPar, dPar3, zD, zO, zC, xD, xO, RZ.sl, Res.sl, dDictP, dAppend, dExtend, dAugI, dTupOwn, oCall, dPopTo, oSorted, dSpoilAll, dGetDic, dIxDic, dInRdic, dRestDic, dPut2, dRNil, dRCons, dRDic, dCallR, dCallM, gLenD, gIsB, startR, startM, ar2Sl, dPar2z, dLenSet, gInDD, dForPop, dExtA, dSeqQ, gLtA, gSortA, gSort1, dJoin, oSplit, iSig, iEnumSD, gInS, dPopNew, dPotDiv, dCallPot, dRevL, Nat.reduceAdd, Nat.zero_add, Nat.reduceLeDiff, true_and, and_true, Bool.false_eq_true, if_true, if_false])
local macro_rules | `(tactic| walk_at "dv") => `(tactic| simp [isTup, isStr, DL.isInt, DL.isBool, isList, okD_int, okD_bool, okD_none, eqv_int, at0, at1, isNone])
mutual
/-- whole numbers, truth values, None in lists and tuples -/
def plainV : PyData → Bool
  | .none | .bool _ | .int _ => true
  | .list xs => decide (xs.length ≤ 1000) && plainAll xs
  | .tuple xs => decide (xs.length ≤ 1000) && plainAll xs
  | _ => false
def plainAll : List PyData → Bool
  | [] => true
  | x :: xs => plainV x && plainAll xs
end
theorem plainAll_iff : ∀ {ds : List PyData}, plainAll ds = true ↔ ∀ d ∈ ds, plainV d = true
  | [] => by simp [plainAll]
  | d :: ds => by simp [plainAll, plainAll_iff (ds := ds)]
theorem depthAll_le {n : Nat} : ∀ {ds : List PyData}, PyData.depthAll ds ≤ n ↔ ∀ d ∈ ds, d.depth ≤ n
  | [] => by simp [PyData.depthAll]
  | d :: ds => by
    have h := depthAll_le (n := n) (ds := ds)
    simp only [PyData.depthAll, List.mem_cons, forall_eq_or_imp, ← h]
    omega
def dfSame : Nat → DF
  | 0 => fun _ _ => False
  | n + 1 => fun as Q => ∃ a, as = [.d a, .d a] ∧ (plainV a = true ∧ a.depth ≤ n) ∧ Q (.dat (.bool true))
theorem dfSame_len {n : Nat} : ∀ as Q, dfSame n as Q → as.length = 2 := by
  intro as Q h
  cases n with
  | zero => exact h.elim
  | succ n => obtain ⟨a, rfl, _⟩ := h; rfl
theorem prD2_self (ds : List PyData) : prD2 ds ds = ds.map fun d => .tuple [d, d] := by
  induction ds with
  | nil => rfl
  | cons d ds ih =>
    unfold prD2 at ih ⊢
    rw [List.map_cons]
    simp only [List.zip_cons_cons, List.map_cons]
    rw [ih]
theorem lcD_same {i j : Nat} {te : DT} {ρ : Rho} {Q : List PyData → Prop} (f : PyData → PyData) (nij : i ≠ j) : ∀ (qs : List PyData) (acc : List PyData),
    (∀ q ∈ qs, ∀ Q : PyData → Prop, Q (f q) → te ((ρ.set i (.dat q)).set j (.dat q)) Q) → acc.length + qs.length ≤ 16777216 → Q (acc ++ qs.map f) →
    lcD (gTupD (gsCons (gSet i) (gsCons (gSet j) gsNil)) 2) dYes te ρ (qs.map fun q => .tuple [q, q]) acc Q
  | [], acc, _, _, h => by simpa [lcD] using h
  | q :: qs, acc, ht, hl, h => by
    simp only [List.map_cons, lcD, gTupD, gsCons, gsNil, gSet, dYes, List.length_cons, List.length_nil, true_and]
    refine ht q (List.mem_cons_self ..) _ ⟨by simp at hl; omega, ?_⟩
    refine lcD_same f nij qs _ (fun e he => ht e (List.mem_cons_of_mem _ he)) (by simp at hl ⊢; omega) ?_
    simpa using h
theorem eqv_b (b : Bool) : PyData.eqv (.bool b) (.bool b) = true := by simp [PyData.eqv]
section
variable {P : Program} {w : World} {K : PySem.W.Frag} {mg : Str → Option Value} {base : Heap}
theorem GZ_law_same (T : Txt K mg) : ∀ n : Nat, Good P w K mg base "_law_same" s__law_same n ["told", "due"] (dfSame n)
  | 0 => good_never T.f__law_same (fun _ _ _ _ _ _ us hl => match us, hl with | [_, _], _ => rfl)
  | n + 1 => by
    have G__law_same := GZ_law_same T n
    refine good_mk (N := ["told", "due", "one", "its"]) T.f__law_same sc__law_same (fun _ _ _ _ _ _ us hl => match us, hl with | [_, _], _ => rfl) dfSame_len (fun f cdv A outer s H E hr =>
    (dss_cons (ds_if (dc_bool (dw_or (dc_val (de_isi kit_list T.b_isinstance T.b_list (de_name 1))) (dw_or1 (dc_val (de_isi kit_tuple T.b_isinstance T.b_tuple (de_name 1))))))
  (dss_cons (ds_if (dc_bool (dw_or (dc_cmp (od_ne hr.u) (de_isi kit_list T.b_isinstance T.b_list (de_name 0)) (de_isi kit_list T.b_isinstance T.b_list (de_name 1)) (nomark _)) (dw_or1 (dc_cmp (od_ne hr.u) (de_isi kit_tuple T.b_isinstance T.b_tuple (de_name 0)) (de_isi kit_tuple T.b_isinstance T.b_tuple (de_name 1)) (nomark _)))))
  (dss_one (ds_ret de_bl))
  dss_nil)
  (dss_one (ds_ret (de_and (de_cmp (od_eq hr.u) (de_callB (cd_len) T.b_len (dl_cons (de_name 0) dl_nil)) (de_callB (cd_len) T.b_len (dl_cons (de_name 1) dl_nil)) (nomark _)) (de_one (de_callB (cd_all rfl) T.b_all (dl_cons (DO.de (do_lc (own := [("one", 2), ("its", 3)]) rfl sc__law_same.nd (di_zip T.b_zip (dl_cons (de_name 0) (dl_cons (de_name 1) dl_nil))) (blkOk_by (own := [("one", 2), ("its", 3)]) (by rfl)) (fun _ _ _ _ _ => (dg_tup (n := 2) rfl (dgs_cons (dg_name 2 sc__law_same.nd) (dgs_cons (dg_name 3 sc__law_same.nd) dgs_nil)))) (fun _ _ _ _ _ => dts_nil) (fun _ _ _ _ _ => (de_callG G__law_same (hr.mono (by omega)) (da_cons (de_name 2) (da_cons (de_name 3) da_nil)))) (by decide))) dl_nil)))))))
  dss_nil)
  (dss_cons (ds_if (dc_cmp (od_is) (de_name 1) de_non (nomark _))
  (dss_one (ds_ret (de_cmp (od_is) (de_name 0) de_non (nomark _))))
  dss_nil)
  (dss_cons (ds_if (dc_bool (dw_or (dc_cmp (od_ne hr.u) (de_isi kit_bool T.b_isinstance T.b_bool (de_name 0)) (de_isi kit_bool T.b_isinstance T.b_bool (de_name 1)) (nomark _)) (dw_or1 (dc_cmp (od_ne hr.u) (de_isi kit_str T.b_isinstance T.b_str (de_name 0)) (de_isi kit_str T.b_isinstance T.b_str (de_name 1)) (nomark _)))))
  (dss_one (ds_ret de_bl))
  dss_nil)
  (dss_one (ds_ret (de_and (de_cmp (od_eq hr.u) (de_isi kit_int T.b_isinstance T.b_int (de_name 0)) (de_isi kit_int T.b_isinstance T.b_int (de_name 1)) (nomark _)) (de_one (de_cmp (od_eq hr.u) (de_name 0) (de_name 1) (nomark _)))))))))) ?_
    rintro as Q ⟨a, rfl, ⟨pl, dp⟩, h⟩
    cases a with
    | list ds =>
      simp only [plainV, Bool.and_eq_true, decide_eq_true_eq] at pl
      simp only [PyData.depth] at dp
      walk_at "dl"
      simp only [isList, isTup, okD_bool, okD_int, eqv_b, eqv_int, decide_true, Bool.and_self, Bool.not_true, true_and]
      rw [prD2_self]
      cases n with
      | zero => omega
      | succ n =>
        refine lcD_same (fun _ => .bool true) (by decide) ds [] (fun d hd Q hq => ?_) (by simp; omega) ?_
        · walk_at "dl"
          exact ⟨d, rfl, ⟨plainAll_iff.mp pl.2 d hd, depthAll_le.mp (Nat.le_of_succ_le_succ (by omega)) d hd⟩, hq⟩
        · rw [List.nil_append]
          refine gAll_map (fun _ => true) _ _ ?_
          have : (ds.all fun _ => true) = true := by simp
          rw [this]
          exact h
    | tuple ds =>
      simp only [plainV, Bool.and_eq_true, decide_eq_true_eq] at pl
      simp only [PyData.depth] at dp
      walk_at "dl"
      simp only [isList, isTup, okD_bool, okD_int, eqv_b, eqv_int, decide_true, Bool.and_self, Bool.not_true, true_and]
      rw [prD2_self]
      cases n with
      | zero => omega
      | succ n =>
        refine lcD_same (fun _ => .bool true) (by decide) ds [] (fun d hd Q hq => ?_) (by simp; omega) ?_
        · walk_at "dl"
          exact ⟨d, rfl, ⟨plainAll_iff.mp pl.2 d hd, depthAll_le.mp (Nat.le_of_succ_le_succ (by omega)) d hd⟩, hq⟩
        · rw [List.nil_append]
          refine gAll_map (fun _ => true) _ _ ?_
          have : (ds.all fun _ => true) = true := by simp
          rw [this]
          exact h
    | none =>
      walk_at "dl"
      exact h
    | bool b =>
      walk_at "dl"
      simp only [isList, isTup, isNone, isBool, isStr, DL.isInt, okD_bool, okD_int, eqv_b, eqv_int, decide_true, Bool.and_self, Bool.not_true, true_and]
      exact h
    | int i =>
      walk_at "dl"
      simp only [isList, isTup, isNone, isBool, isStr, DL.isInt, okD_bool, okD_int, eqv_b, eqv_int, decide_true, Bool.and_self, Bool.not_true, true_and]
      exact h
    | _ => cases pl
end
end K25



/-! One floor. -/
namespace K25
open PySem PySem.Spec PyProof.Rows L2 DL
open PySem.W (AllAlike Sortable dataLe)
local macro_rules | `(tactic| walk_at "dl") => `(tactic| simp only [dSeq, dRet, dRetO, dRetN, dIsi, dName, dAndV, dOrV, dNotV, dAnd, dOr, dNot, dTr, dIf, dIfS, dNext, dNever, dBreak, dCont, dExpr, dSet, dOwn, dAsg, gSet, gTupD, gsCons, gsNil, dCall, dCallK, dACons, dANil, dAPot, dOp, dCB, dCons, dNil, dTup, dLst, dChain, gLen, gIx, gAbs, gInt, gTwo, gTuple, gList, dSl, gSl, dPart, dNoPart, dNeg, dRevT, startD, argSl, List.map_cons, List.map_nil, List.cons_append, List.nil_append, List.append_nil, List.getElem?_cons_zero, List.getElem?_cons_succ, List.set_cons_zero, List.set_cons_succ, List.length_cons, List.length_nil, List.replicate_succ, List.replicate_zero, dK, gCmpI, gLt, gI, gAdd, gMul, gEq, gIs, gIn, Res.data, oData, oLst, oLc, oList, oListRg, iSeq, iRg1, iRg2, iZip_, iEnumD, wipeD, dYes, dPotIx, dPotSet, dPeek, cPeek, dFor, dDat, dFreeze, dInSet, dSetSet, dSortSet, dPeekT, cPeekT, dTmpNew, dND, dNO, dNNil, dSpoil, oMul, dIxOwn, dInDic, dDicNew, dPar, dPar3, zD, zO, zC, xD, xO, RZ.sl, Res.sl, dDictP, dAppend, dExtend, dAugI, dTupOwn, oCall, dPopTo, oSorted, dSpoilAll, dGetDic, dIxDic, dInRdic, dRestDic, dPut2, dRNil, dRCons, dRDic, dCallR, dCallM, gLenD, gIsB, startR, startM, ar2Sl, dPar2z, dLenSet, gInDD, dForPop, dExtA, dSeqQ, gLtA, gSortA, gSort1, dJoin, oSplit, iSig, iEnumSD, gInS, dPopNew, dPotDiv, dCallPot, dRevL, Nat.reduceAdd, Nat.zero_add, Nat.reduceLeDiff, true_and, and_true, Bool.false_eq_true, if_true, if_false])
local macro_rules | `(tactic| walk_at "dv") => `(tactic| simp [isTup, isStr, DL.isInt, DL.isBool, isList, okD_int, okD_bool, okD_none, eqv_int, at0, at1, isNone])
theorem opt_none (o : Option (List Cell)) : isNone (optL o) = o.isNone := by cases o <;> rfl
theorem lay_eqv {n : Nat} {zs : List Cell} (hr : rising zs = true) (hl : zs.length ≤ 2 * n) : PyData.eqv (.list ((layL n zs).map fun W => .tuple (W.map placeD))) (.list []) = !laidB zs := by
  have h := lay_head n zs hr hl
  cases e : layL n zs with
  | nil =>
    rw [e] at h
    cases q : laidB zs with
    | false => simp [PyData.eqv, PyData.eqvAll]
    | true => rw [q] at h; simp at h
  | cons W Ws =>
    rw [e] at h
    cases q : laidB zs with
    | false => rw [q] at h; simp at h
    | true => simp [PyData.eqv, PyData.eqvAll]
theorem nt_pot {ρ : Rho} (h : noTmp ρ = true) : noTmp (.pot :: ρ) = true := h
theorem eqv_bb (a b : Bool) : PyData.eqv (.bool a) (.bool b) = (a == b) := by cases a <;> cases b <;> simp [PyData.eqv]
theorem col_true (zs : List Cell) : colL zs true = zs.filter dark := by unfold colL; congr 1; funext z; cases dark z <;> rfl
theorem col_false (zs : List Cell) : colL zs false = zs.filter fun z => !dark z := by unfold colL; congr 1; funext z; cases dark z <;> rfl
theorem opt_plain {zs : List Cell} (h : zs.length ≤ 40) {o : Option (List Cell)} (ho : ∀ S, o = some S → S.length ≤ 40) : plainV (optL o) = true ∧ (optL o).depth ≤ 2 := by
  cases o with
  | none => exact ⟨rfl, by simp [optL, PyData.depth]⟩
  | some S =>
    have hS := ho S rfl
    constructor
    · simp only [optL, plainV, Bool.and_eq_true, decide_eq_true_eq, List.length_map]
      refine ⟨by omega, plainAll_iff.mpr fun d hd => ?_⟩
      obtain ⟨s, _, rfl⟩ := List.mem_map.mp hd
      simp [plainV, plainAll]
    · have := (cells_lay S).2.1
      simp only [optL, PyData.depth]
      omega
theorem cells_plainV (l : List Cell) (h : l.length ≤ 1000) : plainV (.tuple (l.map cellD)) = true ∧ (PyData.tuple (l.map cellD)).depth ≤ 2 := by
  constructor
  · simp only [plainV, Bool.and_eq_true, decide_eq_true_eq, List.length_map]
    refine ⟨h, plainAll_iff.mpr fun d hd => ?_⟩
    obtain ⟨s, _, rfl⟩ := List.mem_map.mp hd
    simp [plainV, plainAll]
  · have := (cells_lay l).2.1
    simp only [PyData.depth]
    omega
theorem cut_last (ds : List PyData) : (DL.cutD ds (some (-1)) none).length ≤ 1 := by
  unfold DL.cutD
  have e : HT.sIx ds.length ds.length none = ds.length := rfl
  have e2 : HT.sIx ds.length 0 (some (-1)) = (-1 + (ds.length : Int)).toNat := rfl
  rw [e, e2, List.length_take, List.length_drop]
  omega
/-- a value that is asked for -/
def Val (v : PyData) : Prop := Few v ∧ Vok v
abbrev rowD (z : Cell) : PyData := .list [.int z.1, .int z.2]
theorem rows_bd (zs : List (Int × Int)) (hb : ∀ z ∈ zs, (0 ≤ z.1 ∧ z.1 ≤ 7) ∧ 0 ≤ z.2 ∧ z.2 ≤ 7) : Bds 1 (3 * zs.length) (zs.map rowD) := by
  refine ⟨fun d hd => ?_, fun d hd => ?_, ?_⟩
  · obtain ⟨z, hz, rfl⟩ := List.mem_map.mp hd
    have b := hb z hz
    have h1 : (decide (-99 ≤ z.1) && decide (z.1 ≤ 99)) = true := by simp; omega
    have h2 : (decide (-99 ≤ z.2) && decide (z.2 ≤ 99)) = true := by simp; omega
    simp only [small, smallAll, h1, h2]
    rfl
  · obtain ⟨z, hz, rfl⟩ := List.mem_map.mp hd
    simp [PyData.depth, PyData.depthAll]
  · clear hb
    induction zs with
    | nil => simp [wgtAll]
    | cons z zs ih => simp only [List.map_cons, wgtAll, wgt, List.length_cons]; omega
theorem val_tup {n k : Nat} {ds : List PyData} (h : Bds n k ds) (hb : n ≤ 10 ∧ k ≤ 1000) (hl : ds.length < 32) : Val (.tuple ds) := ⟨fun es e => by cases e; exact hl, h.tup.mono (by omega) (by omega)⟩
theorem val_lst {n k : Nat} {ds : List PyData} (h : Bds n k ds) (hb : n ≤ 10 ∧ k ≤ 1000) : Val (.list ds) := ⟨fun es e => (by cases e), h.lst.mono (by omega) (by omega)⟩
/-- a lot of a lot -/
def Sub (lot S : List Cell) : Prop := rising S = true ∧ ∀ s ∈ S, s ∈ lot
theorem Sub.len {lot S : List Cell} (h : Sub lot S) : S.length ≤ lot.length := nodup_le _ _ (rising_nodup h.1) h.2
theorem sub_of {lot S : List Cell} (hr : rising lot = true) (h : S.Sublist lot) : Sub lot S := ⟨pw_rising ((rising_pw hr).sublist h), fun s hs => h.subset hs⟩
theorem great_sub {lot least : List Cell} {c : Bool} {best : Int} (hr : rising lot = true) (g : Great lot c best least) : Sub lot least := by
  obtain ⟨_, _, g⟩ := g
  rcases g with ⟨_, rfl⟩ | ⟨_, ⟨S, hS, eS⟩, rl, ml⟩
  · exact ⟨rfl, fun s h => nomatch h⟩
  · exact ⟨rl, fun s hs => (mem_col.mp (hS.subset ((ml s).mp hs S hS eS))).1⟩
theorem due_sub {lot l1 l2 : List Cell} {b1 b2 : Int} (hr : rising lot = true) (g1 : Great lot true b1 l1) (g2 : Great lot false b2 l2) {S : List Cell} (h : dueL b1 l1 b2 l2 = some S) : Sub lot S := by
  unfold dueL at h
  split at h
  · cases h; exact great_sub hr g1
  · split at h
    · cases h; exact great_sub hr g2
    · cases h
section
variable {P : Program} {w : World} {K : PySem.W.Frag} {mg : Str → Option Value} {base : Heap}
def dfOne : DF := fun as Q => ∃ zs : List Cell, as = [.p, .d (floorD zs)] ∧ (FloorOk zs ∧ zs.length ≤ 16) ∧ Q (.dat (.bool true))
theorem dfOne_len : ∀ as Q, dfOne as Q → as.length = 2 := by
  rintro as Q ⟨zs, rfl, _⟩
  rfl
theorem G__law_one_right (T : Txt K mg) : Good P w K mg base "_law_one_right" s__law_one_right 10 ["pot", "floor"] dfOne := by
  have G__law_pick := GZ_law_pick (P := P) (w := w) (base := base) T
  have G__law_lot := G__law_lot (P := P) (w := w) (base := base) T
  have G__law_draw := GZ_law_draw (P := P) (w := w) (base := base) T
  have G__law_dark := G__law_dark (P := P) (w := w) (base := base) T
  have G__law_greatest := G__law_greatest (P := P) (w := w) (base := base) T
  have G_lack := G_lack (P := P) (w := w) (base := base) T
  have G_can_lay := G_can_lay (P := P) (w := w) (base := base) T
  have G__law_same := GZ_law_same (P := P) (w := w) (base := base) T 6
  have G__law_layings := G__law_layings (P := P) (w := w) (base := base) T
  have G__law_near := G__law_near (P := P) (w := w) (base := base) T
  have G_neighbours := GN_neighbours (P := P) (w := w) (base := base) T
  have G_lack_size := G_lack_size (P := P) (w := w) (base := base) T
  have G__law_is_lack := G__law_is_lack (P := P) (w := w) (base := base) T
  have G_is_lack := G_is_lack (P := P) (w := w) (base := base) T
  refine good_mk (N := ["pot", "floor", "cells", "shown", "lot", "dark", "light", "due", "some", "turn", "colour", "value", "own", "kept", "flag", "cell", "one"]) T.f__law_one_right sc__law_one_right (fun _ _ _ _ _ _ us hl => match us, hl with | [_, _], _ => rfl) dfOne_len (fun f cdv A outer s H E hr =>
    (dss_cons (ds_par 2 3 rfl sc__law_one_right.nd (dx_d (de_ix (de_name 1) de_int)) (dx_d (de_callB (cd_reprA hr.g hr.u) T.b_repr (dl_cons (de_name 1) dl_nil))))
  (dss_cons (ds_set 4 sc__law_one_right.nd (de_callG G__law_pick (hr.mono (by decide)) (da_pot 0 (da_cons (de_lst (dl_cons (de_name 2) (dl_cons (de_name 2) (dl_cons (de_callG G__law_lot (hr.mono (by decide)) (da_pot 0 (da_cons (de_name 2) da_nil))) dl_nil)))) da_nil))))
  (dss_cons (ds_par 5 6 rfl sc__law_one_right.nd (dx_d (de_callG G__law_greatest (hr.mono (by decide)) (da_cons (de_name 4) (da_cons de_bl da_nil)))) (dx_d (de_callG G__law_greatest (hr.mono (by decide)) (da_cons (de_name 4) (da_cons de_bl da_nil)))))
  (dss_cons (ds_set 7 sc__law_one_right.nd (de_if (dc_cmp (od_gt) (de_ix (de_name 5) de_int) de_int (nomark _)) (de_ix (de_name 5) de_int) (de_if (dc_cmp (od_gt) (de_ix (de_name 6) de_int) de_int (nomark _)) (de_ix (de_name 6) de_int) de_non)))
  (dss_cons (ds_if (dc_not (dc_val (de_callG G__law_same (hr.mono (by decide)) (da_cons (de_lst (dl_cons (de_callG G_lack (hr.mono (by decide)) (da_cons (de_name 1) (da_cons (de_name 4) da_nil))) (dl_cons (de_callGK (ks := ["lot", "floor"]) (q := [1, 0]) G_lack (hr.mono (by decide)) (fun _ _ _ _ _ _ ws h => match ws, h with | [_, _], _ => rfl) (dk_cons (de_name 4) (dk_cons (de_name 1) dk_nil))) (dl_cons (de_callG G_can_lay (hr.mono (by decide)) (da_cons (de_name 1) (da_cons (de_name 4) da_nil))) dl_nil)))) (da_cons (de_lst (dl_cons (de_name 7) (dl_cons (de_name 7) (dl_cons (de_cmp (od_is) (de_name 7) de_non (nomark _)) dl_nil)))) da_nil)))))
  (dss_one (ds_ret de_bl))
  dss_nil)
  (dss_cons (ds_if (dc_cmp (od_ne hr.u) (de_cmp (od_ne hr.u) (de_callG G__law_layings (hr.mono (by decide)) (da_cons (de_name 4) da_nil)) (de_lst dl_nil) (nomark _)) (de_cmp (od_is) (de_name 7) de_non (nomark _)) (nomark _))
  (dss_one (ds_ret de_bl))
  dss_nil)
  (dss_cons (ds_if (dc_bool (dw_and (dc_cmp (od_eq hr.u) (de_op od_mul de_int (de_callB (cd_len) T.b_len (dl_cons (DO.de (do_lc (own := [("cell", 15)]) rfl sc__law_one_right.nd (di_seq (de_name 4)) (blkOk_by (own := [("cell", 15)]) (by rfl)) (fun _ _ _ _ _ => (dg_name 15 sc__law_one_right.nd)) (fun _ _ _ _ _ => (dts_one (dc_val (de_callG G__law_dark (hr.mono (by decide)) (da_cons (de_name 15) da_nil))))) (fun _ _ _ _ _ => (de_name 15)) (by decide))) dl_nil))) (de_callB (cd_len) T.b_len (dl_cons (de_name 4) dl_nil)) (nomark _)) (dw_and1 (dc_cmp (od_ne hr.u) (de_cmp (od_gt) (de_ix (de_name 5) de_int) de_int (nomark _)) (de_cmp (od_gt) (de_ix (de_name 6) de_int) de_int (nomark _)) (nomark _)))))
  (dss_one (ds_ret de_bl))
  dss_nil)
  (dss_cons (ds_own 8 sc__law_one_right.nd (do_lst (dl_cons (de_if (dc_cmp (od_isNot) (de_name 7) de_non (nomark _)) (de_name 7) (de_tup dl_nil)) dl_nil)))
  (dss_cons (ds_for PassesOwn.never rfl (di_rg1 T.b_range (dl_cons de_int dl_nil)) (dg_name 9 sc__law_one_right.nd)
  (dss_cons (ds_set 10 sc__law_one_right.nd (de_cmp (od_eq hr.u) (de_callG G__law_draw (hr.mono (by decide)) (da_pot 0 (da_cons de_int da_nil))) de_int (nomark _)))
  (dss_one (ds_append 8 (de_callTy (cd_tuple) T.b_tuple (dl_cons (DO.de (do_lc (own := [("cell", 15)]) rfl sc__law_one_right.nd (di_seq (de_name 4)) (blkOk_by (own := [("cell", 15)]) (by rfl)) (fun _ _ _ _ _ => (dg_name 15 sc__law_one_right.nd)) (fun _ _ _ _ _ => (dts_one (dc_bool (dw_and (dc_cmp (od_eq hr.u) (de_callG G__law_dark (hr.mono (by decide)) (da_cons (de_name 15) da_nil)) (de_name 10) (nomark _)) (dw_and1 (dc_cmp (od_eq hr.u) (de_callG G__law_draw (hr.mono (by decide)) (da_pot 0 (da_cons de_int da_nil))) de_int (nomark _))))))) (fun _ _ _ _ _ => (de_name 15)) (by decide))) dl_nil))))))
  (dss_cons (ds_append 8 (de_callG G__law_lot (hr.mono (by decide)) (da_pot 0 (da_cons (de_name 4) da_nil))))
  (dss_cons (ds_freeze 8 (h := (ds_for PassesOwn.never rfl (di_seq (de_name 8)) (dg_name 11 sc__law_one_right.nd)
  (dss_cons (ds_set 12 sc__law_one_right.nd (DO.de (do_lst (dl_cons (de_callG G__law_near (hr.mono (by decide)) (da_cons (de_name 4) (da_cons (de_name 11) da_nil))) (dl_cons (de_op od_sub (de_callB (cd_len) T.b_len (dl_cons (de_name 11) dl_nil)) (de_callB (cd_len) T.b_len (dl_cons (de_callG G__law_near (hr.mono (by decide)) (da_cons (de_name 4) (da_cons (de_name 11) da_nil))) dl_nil))) dl_nil)))))
  (dss_one (ds_if (dc_not (dc_val (de_callG G__law_same (hr.mono (by decide)) (da_cons (de_lst (dl_cons (de_lst (dl_cons (de_callG G_neighbours (hr.mono (by decide)) (da_cons (de_name 1) (da_cons (de_name 4) (da_cons (de_name 11) da_nil)))) (dl_cons (de_callG G_lack_size (hr.mono (by decide)) (da_cons (de_name 1) (da_cons (de_name 4) (da_cons (de_name 11) da_nil)))) dl_nil))) (dl_cons (de_lst (dl_cons (de_callGK (ks := ["cells", "lot", "floor"]) (q := [2, 1, 0]) G_neighbours (hr.mono (by decide)) (fun _ _ _ _ _ _ ws h => match ws, h with | [_, _, _], _ => rfl) (dk_cons (de_name 11) (dk_cons (de_name 4) (dk_cons (de_name 1) dk_nil)))) (dl_cons (de_callGK (ks := ["cells", "lot", "floor"]) (q := [2, 1, 0]) G_lack_size (hr.mono (by decide)) (fun _ _ _ _ _ _ ws h => match ws, h with | [_, _, _], _ => rfl) (dk_cons (de_name 11) (dk_cons (de_name 4) (dk_cons (de_name 1) dk_nil)))) dl_nil))) dl_nil))) (da_cons (de_lst (dl_cons (de_name 12) (dl_cons (de_name 12) dl_nil))) da_nil)))))
  (dss_one (ds_ret de_bl))
  dss_nil))))))
  (dss_cons (ds_for PassesOwn.never rfl (di_seq (de_op od_add (de_name 8) (de_lst (dl_cons de_non (dl_cons de_int (dl_cons (de_lst dl_nil) (dl_cons (de_callTy (cd_list) T.b_list (dl_cons (de_ix (de_name 8) de_int) dl_nil)) (dl_cons (de_rev (de_ix (de_name 8) de_int)) (dl_cons (de_op od_add (de_ix (de_name 8) de_int) (de_slice (de_ix (de_name 8) de_int) (do_some (de_neg de_int)) do_none)) (dl_cons (de_callTy (cd_tuple) T.b_tuple (dl_cons (DO.de (do_lc (own := [("one", 16)]) rfl sc__law_one_right.nd (di_seq (de_ix (de_name 8) de_int)) (blkOk_by (own := [("one", 16)]) (by rfl)) (fun _ _ _ _ _ => (dg_name 16 sc__law_one_right.nd)) (fun _ _ _ _ _ => dts_nil) (fun _ _ _ _ _ => (de_callTy (cd_list) T.b_list (dl_cons (de_name 16) dl_nil))) (by decide))) dl_nil)) dl_nil)))))))))) (dg_name 11 sc__law_one_right.nd)
  (dss_cons (ds_par 13 14 rfl sc__law_one_right.nd (dx_d (de_callB (cd_reprA hr.g hr.u) T.b_repr (dl_cons (de_name 11) dl_nil))) (dx_d (de_callG G__law_is_lack (hr.mono (by decide)) (da_cons (de_name 4) (da_cons (de_name 11) da_nil)))))
  (dss_cons (ds_if (dc_bool (dw_or (dc_not (dc_val (de_callG G__law_same (hr.mono (by decide)) (da_cons (de_lst (dl_cons (de_callG G_is_lack (hr.mono (by decide)) (da_cons (de_name 1) (da_cons (de_name 4) (da_cons (de_name 11) da_nil)))) (dl_cons (de_callGK (ks := ["value", "lot", "floor"]) (q := [2, 1, 0]) G_is_lack (hr.mono (by decide)) (fun _ _ _ _ _ _ ws h => match ws, h with | [_, _, _], _ => rfl) (dk_cons (de_name 11) (dk_cons (de_name 4) (dk_cons (de_name 1) dk_nil)))) dl_nil))) (da_cons (de_lst (dl_cons (de_name 14) (dl_cons (de_name 14) dl_nil))) da_nil))))) (dw_or1 (dc_cmp (od_neR) (de_callB (cd_reprA hr.g hr.u) T.b_repr (dl_cons (de_name 11) dl_nil)) (de_name 13) (nomark _)))))
  (dss_one (ds_ret de_bl))
  dss_nil)
  (dss_one (ds_if (dc_bool (dw_and (dc_val (de_name 14)) (dw_and1 (dc_cmp (od_is) (de_name 7) de_non (nomark _)))))
  (dss_one (ds_ret de_bl))
  dss_nil)))))
  (dss_one (ds_ret (de_cmp (od_eqR) (de_callB (cd_reprA hr.g hr.u) T.b_repr (dl_cons (de_name 1) dl_nil)) (de_name 3) (nomark _))))))))))))))))) ?_
  rintro as Q ⟨zs, rfl, ⟨hz, h16⟩, h⟩
  refine dSeq_intro fun N hN => ?_
  walk_at "dl"
  rw [at1]
  have bz := fun z hz' => hz.b z hz'
  have bf : Vok (floorD zs) := (bd_floor bz).mono (by decide) (by omega)
  refine ⟨bf.repr, hN _ ?_⟩
  clear hN
  refine dSeq_intro fun N hN => ?_
  walk_at "dl"
  refine ⟨zs, rfl, by omega, fun ws sb => ⟨⟨by simp, by simp⟩, fun d hd => ?_⟩⟩
  simp only [] at hd ⊢
  obtain ⟨lot, rfl, sl⟩ : ∃ lot : List Cell, d = .tuple (lot.map cellD) ∧ lot.Sublist zs := by
    simp only [List.mem_cons, List.not_mem_nil, or_false] at hd
    rcases hd with rfl | rfl | rfl
    · exact ⟨zs, rfl, List.Sublist.refl _⟩
    · exact ⟨zs, rfl, List.Sublist.refl _⟩
    · exact ⟨ws, rfl, sb⟩
  have rl : rising lot = true := pw_rising ((rising_pw hz.r).sublist sl)
  have lz : ∀ z ∈ lot, z ∈ zs := fun z hz => sl.subset hz
  have ll : lot.length ≤ 16 := Nat.le_trans sl.length_le h16
  have lot2 : rising lot = true ∧ ∀ z ∈ lot, z ∈ zs := ⟨rl, lz⟩
  have l8 := lot8 hz lot2
  refine hN _ ?_
  clear hN hd
  refine dSeq_intro fun N hN => ?_
  walk_at "dl"
  refine ⟨lot, true, rfl, l8, ll, fun b1 l1 g1 => ⟨lot, false, rfl, l8, ll, fun b2 l2 g2 => ?_⟩⟩
  refine hN _ ?_
  clear hN
  refine dSeq_intro fun N hN => ?_
  walk_at "dl"
  suffices hh : N [.pot, .dat (floorD zs), .dat (.tuple (zs.map cellD)), .dat (.str (floorD zs).shown), .dat (.tuple (lot.map cellD)), .dat (.tuple [.int b1, .tuple (l1.map cellD)]), .dat (.tuple [.int b2, .tuple (l2.map cellD)]), .dat (optL (dueL b1 l1 b2 l2)), .emp, .emp, .emp, .emp, .emp, .emp, .emp, .emp, .emp] by
    have q0 : ∀ (b : Int) (l : List Cell), atI [PyData.int b, .tuple (l.map cellD)] 0 = some (.int b) := fun _ _ => rfl
    have q1 : ∀ (b : Int) (l : List Cell), atI [PyData.int b, .tuple (l.map cellD)] 1 = some (.tuple (l.map cellD)) := fun _ _ => rfl
    rw [q0, q1, q0, q1]
    simp only []
    unfold dueL at hh
    by_cases p1 : 0 < b1
    · rw [if_pos p1] at hh
      rw [decide_eq_true p1]
      exact hh
    · rw [if_neg p1] at hh
      rw [decide_eq_false p1]
      simp only []
      by_cases p2 : 0 < b2
      · rw [if_pos p2] at hh
        rw [decide_eq_true p2]
        exact hh
      · rw [if_neg p2] at hh
        rw [decide_eq_false p2]
        exact hh
  refine hN _ ?_
  clear hN
  obtain ⟨due, hdue⟩ : ∃ due, due = dueL b1 l1 b2 l2 := ⟨_, rfl⟩
  have ds : ∀ S, due = some S → Sub lot S := fun S e => due_sub rl g1 g2 (hdue ▸ e)
  rw [← hdue]
  refine dSeq_intro fun N hN => ?_
  walk_at "dl"
  refine ⟨zs, lot, rfl, hz, lot2, fun M r mt st lk => ?_⟩
  have er := due_lack rl mt st lk g1 g2
  have dl := due_laid rl g1 g2 mt st lk
  rw [← hdue] at er dl
  rw [er]
  clear er mt st lk M r
  simp only []
  refine ⟨zs, lot, rfl, hz, lot2, fun M r' mt st lk => ?_⟩
  have er := due_lack rl mt st lk g1 g2
  rw [← hdue] at er
  rw [er]
  clear er mt st lk M r'
  simp only []
  refine ⟨zs, lot, rfl, hz, lot2, ?_⟩
  simp only []
  have dn : isNone (optL due) = laidB lot := by rw [opt_none, dl]
  rw [dn]
  have op := opt_plain (zs := lot) (by omega) (o := due) fun S e => by have := (ds S e).len; omega
  refine ⟨_, rfl, ⟨?_, ?_⟩, ?_⟩
  · simp [plainV, plainAll, op.1]
  · have := op.2
    simp only [PyData.depth, PyData.depthAll]
    omega
  simp only [Bool.not_true]
  refine hN _ ?_
  clear hN
  refine dSeq_intro fun N hN => ?_
  walk_at "dl"
  refine ⟨lot, rfl, rl, by omega, ?_⟩
  simp only []
  refine ⟨ok_lays _, ?_⟩
  rw [lay_eqv rl (by omega), dn]
  refine ⟨by rw [okD_bool, okD_bool]; rfl, ?_⟩
  rw [eqv_bb, Bool.not_not, beq_self_eq_true]
  simp only [Bool.not_true]
  refine hN _ ?_
  clear hN
  refine dSeq_intro fun N hN => ?_
  walk_at "dl"
  refine lcD_fm cellD dark cellD lot [] (fun x hx Q hq => ?_) (fun x hx _ Q hq => ?_) (by simp; omega) ?_
  · walk_at "dl"
    exact ⟨x, rfl, hq⟩
  · walk_at "dl"
    exact hq
  rw [List.nil_append]
  suffices hn : N [.pot, .dat (floorD zs), .dat (.tuple (zs.map cellD)), .dat (.str (floorD zs).shown), .dat (.tuple (lot.map cellD)), .dat (.tuple [.int b1, .tuple (l1.map cellD)]), .dat (.tuple [.int b2, .tuple (l2.map cellD)]), .dat (optL due), .emp, .emp, .emp, .emp, .emp, .emp, .emp, .emp, .emp] by
    refine ⟨.inl ⟨by decide, by decide⟩, by rw [okD_int, okD_int]; rfl, ?_⟩
    rw [eqv_int, List.length_map, List.length_map]
    by_cases ev : 2 * (lot.filter dark).length = lot.length
    · rw [decide_eq_true (by omega)]
      have q0 : ∀ (b : Int) (l : List Cell), atI [PyData.int b, .tuple (l.map cellD)] 0 = some (.int b) := fun _ _ => rfl
      rw [q0, q0]
      simp only []
      refine ⟨by rw [okD_bool, okD_bool]; rfl, ?_⟩
      have sp := split_len dark lot
      have ec : (colL lot true).length = (colL lot (!true)).length := by
        rw [Bool.not_true, col_true, col_false]
        omega
      have eb : decide (0 < b1) = decide (0 < b2) := by
        by_cases p1 : 0 < b1
        · rw [decide_eq_true p1, decide_eq_true (other_lack rl g1 g2 ec p1)]
        · rw [decide_eq_false p1, decide_eq_false fun p2 => p1 (other_lack rl g2 g1 ec.symm p2)]
      rw [eqv_bb, eb, beq_self_eq_true]
      simp only [Bool.not_true]
      exact hn
    · rw [decide_eq_false (by omega)]
      exact hn
  refine hN _ ?_
  clear hN
  refine dSeq_intro fun N hN => ?_
  walk_at "dl"
  obtain ⟨S0, hS0⟩ : ∃ S0, S0 = due.getD [] := ⟨_, rfl⟩
  have u0 : Sub lot S0 := by
    cases due with
    | none => rw [hS0]; exact ⟨rfl, fun s h => nomatch h⟩
    | some S => rw [hS0]; exact ds S rfl
  suffices hh : N [.pot, .dat (floorD zs), .dat (.tuple (zs.map cellD)), .dat (.str (floorD zs).shown), .dat (.tuple (lot.map cellD)), .dat (.tuple [.int b1, .tuple (l1.map cellD)]), .dat (.tuple [.int b2, .tuple (l2.map cellD)]), .dat (optL due), .own [lotD S0], .emp, .emp, .emp, .emp, .emp, .emp, .emp, .emp] by
    cases due with
    | none => rw [hS0] at hh; exact hh
    | some S => rw [hS0] at hh; exact hh
  refine hN _ ?_
  clear hN op dl ds
  obtain ⟨dd, hdd⟩ : ∃ dd, dd = optL due := ⟨_, rfl⟩
  rw [← hdd]
  rw [← hdd] at dn
  refine dSeq_intro fun N hN => ?_
  walk_at "dl"
  refine ⟨⟨by decide, by decide⟩, ?_⟩
  refine loopD_inv (fun k ρ => ∃ (Ss : List (List Cell)) (s9 s10 : Sl), (Du s9 ∧ Du s10) ∧ (Ss.length = k ∧ ∀ S ∈ Ss, Sub lot S) ∧ ρ = [.pot, .dat (floorD zs), .dat (.tuple (zs.map cellD)), .dat (.str (floorD zs).shown), .dat (.tuple (lot.map cellD)), .dat (.tuple [.int b1, .tuple (l1.map cellD)]), .dat (.tuple [.int b2, .tuple (l2.map cellD)]), .dat dd, .own ((S0 :: Ss).map lotD), s9, s10, .emp, .emp, .emp, .emp, .emp, .emp]) _ 0 _
    ⟨[], .emp, .emp, ⟨.inl rfl, .inl rfl⟩, ⟨rfl, fun S h => nomatch h⟩, rfl⟩ (fun k d ρ N2 hk ⟨Ss, s9, s10, ⟨d9, d10⟩, ⟨sl9, hSs⟩, er⟩ hN2 => ?_) (fun ρ ⟨Ss, s9, s10, ⟨d9, d10⟩, ⟨sl9, hSs⟩, er⟩ => ?_)
  · subst er
    rw [Nat.zero_add] at sl9 hN2
    have k5 : k < 5 := (List.getElem?_eq_some_iff.mp hk).1
    walk_at "dl"
    refine ⟨⟨by decide, by decide⟩, fun n n0 n1 => ?_⟩
    simp only []
    refine ⟨by rw [okD_int, okD_int]; rfl, ?_⟩
    rw [eqv_int]
    obtain ⟨c, hc⟩ : ∃ c, c = decide (n = 0) := ⟨_, rfl⟩
    rw [← hc]
    refine lcD_inv (fun ds acc => ∃ rest us : List Cell, ds = rest.map cellD ∧ acc = us.map cellD ∧ (us ++ rest).Sublist lot) _ _ ⟨lot, [], rfl, rfl, List.Sublist.refl _⟩ (by simp; omega) (fun d' ds acc N3 hI hl2 hN3 => ?_) (fun acc hI => ?_)
    · obtain ⟨rest, us, er, rfl, sb⟩ := hI
      cases rest with
      | nil => cases er
      | cons z rest =>
        rw [List.map_cons] at er
        cases er
        have skip : (us ++ rest).Sublist lot := List.Sublist.trans (List.Sublist.append (List.Sublist.refl us) (List.sublist_cons_self z rest)) sb
        walk_at "dl"
        refine ⟨z, rfl, ?_⟩
        simp only []
        refine ⟨by rw [okD_bool, okD_bool]; rfl, ?_⟩
        rw [eqv_bb]
        cases dark z == c with
        | false => exact hN3 _ ⟨rest, us, rfl, rfl, skip⟩ (by simp)
        | true =>
          refine ⟨by decide, fun m m0 m1 => ?_⟩
          simp only []
          refine ⟨by rw [okD_int, okD_int]; rfl, ?_⟩
          cases PyData.eqv (.int m) (.int 0) with
          | false => exact hN3 _ ⟨rest, us, rfl, rfl, skip⟩ (by simp)
          | true => exact ⟨hl2, hN3 _ ⟨rest, us ++ [z], rfl, by rw [List.map_append]; rfl, by simpa using sb⟩ (by simp)⟩
    · obtain ⟨rest, us, er, rfl, sb⟩ := hI
      have : rest = [] := List.map_eq_nil_iff.mp er.symm
      subst this
      rw [List.append_nil] at sb
      refine ⟨⟨rfl, by rw [List.length_map]; omega⟩, hN2 _ ⟨Ss ++ [us], .dat d, .dat (.bool c), ⟨.inr ⟨_, rfl⟩, .inr ⟨_, rfl⟩⟩, ⟨by rw [List.length_append, sl9]; rfl, fun S hS => ?_⟩, by rw [List.map_cons, List.map_append]; rfl⟩⟩
      rcases List.mem_append.mp hS with hS | hS
      · exact hSs S hS
      · rw [List.mem_singleton.mp hS]; exact sub_of rl sb
  · subst er
    refine hN _ ?_
    clear hN
    have sl9 : Ss.length = 5 := sl9
    refine dSeq_intro fun N hN => ?_
    walk_at "dl"
    refine ⟨lot, rfl, by omega, fun us sb => ?_⟩
    simp only []
    obtain ⟨Vs, hVs⟩ : ∃ Vs, Vs = Ss ++ [us] := ⟨_, rfl⟩
    have eV : Ss.map lotD ++ [PyData.tuple (us.map cellD)] = Vs.map lotD := by rw [hVs, List.map_append]; rfl
    have uV : ∀ S ∈ S0 :: Vs, Sub lot S := fun S hS => by
      rcases List.mem_cons.mp hS with rfl | hS
      · exact u0
      · rw [hVs] at hS
        rcases List.mem_append.mp hS with hS | hS
        · exact hSs S hS
        · rw [List.mem_singleton.mp hS]; exact sub_of rl sb
    have lV : Vs.length = 6 := by rw [hVs, List.length_append, sl9]; rfl
    rw [eV]
    refine ⟨⟨nt_pot (nt_dat (nt_dat (nt_dat (nt_dat (nt_dat (nt_dat (nt_dat (nt_own (nt_du d9 (nt_du d10 rfl)))))))))), by rw [List.length_map]; omega⟩, hN _ ?_⟩
    clear hN eV hVs hSs sl9
    refine dSeq_intro fun N hN => ?_
    walk_at "dl"
    refine ⟨nt_pot (nt_dat (nt_dat (nt_dat (nt_dat (nt_dat (nt_dat (nt_dat (nt_own (nt_du d9 (nt_du d10 rfl)))))))))), ?_⟩
    rw [← List.map_cons (f := lotD)]
    refine loopD_pre lotD (fun pre ρ => ∃ (s11 s12 : Sl), (Du s11 ∧ Du s12) ∧ ρ = [.pot, .dat (floorD zs), .dat (.tuple (zs.map cellD)), .dat (.str (floorD zs).shown), .dat (.tuple (lot.map cellD)), .dat (.tuple [.int b1, .tuple (l1.map cellD)]), .dat (.tuple [.int b2, .tuple (l2.map cellD)]), .dat dd, .dat (.list ((S0 :: Vs).map lotD)), s9, s10, s11, s12, .emp, .emp, .emp, .emp]) (S0 :: Vs) _ ⟨.emp, .emp, ⟨.inl rfl, .inl rfl⟩, rfl⟩ ?_ ?_
    · rintro pre S post ρ N2 exs ⟨s11, s12, ⟨d11, d12⟩, rfl⟩ hN2
      have uS := uV S (by rw [exs]; simp)
      have sl := uS.len
      have fS := fewN rl ll (rising_nodup uS.1) uS.2
      walk_at "dl"
      refine ⟨lot, S, rfl, l8, ⟨uS.2, fS⟩, ?_⟩
      simp only []
      refine ⟨lot, S, rfl, l8, ⟨uS.2, fS⟩, ?_⟩
      simp only []
      rw [List.length_map, List.length_map, show ((S.length : Nat) : Int) - ((nbL lot S).length : Nat) = sizeI lot S from rfl]
      have cc : ∀ {r : List Cell → List Cell → Res} {Q : Res → Prop}, Q (r lot S) → dfCC r [.d (floorD zs), .d (.tuple (lot.map cellD)), .d (.tuple (S.map cellD))] Q := fun hq => ⟨zs, lot, S, rfl, hz, lot2, ⟨uS, by omega, fS⟩, hq⟩
      refine cc ?_
      simp only []
      refine cc ?_
      simp only []
      refine cc ?_
      simp only []
      refine cc ?_
      simp only []
      have pb := cells_plainV (nbL lot S) (Nat.le_trans (List.length_filter_le _ _) (by omega))
      refine ⟨_, rfl, ⟨?_, ?_⟩, ?_⟩
      · simp [plainV, plainAll] at pb ⊢
        exact pb.1
      · have := pb.2
        simp only [PyData.depth, PyData.depthAll] at this ⊢
        omega
      · simp only [Bool.not_true]
        exact hN2 _ ⟨_, _, ⟨.inr ⟨_, rfl⟩, .inr ⟨_, rfl⟩⟩, rfl⟩
    · rintro ρ ⟨s11, s12, ⟨d11, d12⟩, rfl⟩
      refine hN _ ?_
      clear hN
      refine dSeq_intro fun N hN => ?_
      have a0 : atI ((S0 :: Vs).map lotD) 0 = some (.tuple (S0.map cellD)) := atI_nat (j := 0) rfl
      have v7 : ((S0 :: Vs).map lotD).length = 7 := by rw [List.length_map, List.length_cons, lV]
      have n0 := u0.len
      obtain ⟨VV, hVV⟩ : ∃ VV, VV = (S0 :: Vs).map lotD := ⟨_, rfl⟩
      rw [← hVV] at a0 v7 ⊢
      walk_at "dl"
      rw [a0]
      simp only []
      have cl := cut_last (S0.map cellD)
      have b0 : ∀ z ∈ S0, (0 ≤ z.1 ∧ z.1 ≤ 7) ∧ 0 ≤ z.2 ∧ z.2 ≤ 7 := fun z hz' => l8.b z (u0.2 z hz')
      have bd0 := cells_bd S0 b0
      refine ⟨by rw [List.length_map]; omega, lcD_m cellD rowD S0 (fun z hz' Q hq => ?_) (by omega) ⟨by omega, ?_⟩⟩
      · walk_at "dl"
        exact hq
      obtain ⟨WW, hWW⟩ : ∃ WW, WW = VV ++ [PyData.none, .int 0, .list [], .list (S0.map cellD), .tuple (S0.map cellD).reverse, .tuple (S0.map cellD ++ DL.cutD (S0.map cellD) (some (-1)) none), .tuple (S0.map rowD)] := ⟨_, rfl⟩
      have vW : ∀ v ∈ WW, Val v := fun v hv => by
        rw [hWW] at hv
        rcases List.mem_append.mp hv with hv | hv
        · rw [hVV] at hv
          obtain ⟨S, hS, rfl⟩ := List.mem_map.mp hv
          have uS := uV S hS
          have := uS.len
          exact val_tup (cells_bd S fun z hz' => l8.b z (uS.2 z hz')) ⟨by decide, by omega⟩ (by rw [List.length_map]; omega)
        · simp only [List.mem_cons, List.not_mem_nil, or_false] at hv
          rcases hv with rfl | rfl | rfl | rfl | rfl | rfl | rfl
          · exact ⟨fun es e => (by cases e), ⟨rfl, by simp [PyData.depth], by simp [wgt]⟩⟩
          · exact ⟨fun es e => (by cases e), ⟨rfl, by simp [PyData.depth], by simp [wgt]⟩⟩
          · exact ⟨fun es e => (by cases e), ⟨rfl, by simp [PyData.depth, PyData.depthAll], by simp [wgt, wgtAll]⟩⟩
          · exact val_lst bd0 ⟨by decide, by omega⟩
          · refine val_tup (bd0.sub (ys := (S0.map cellD).reverse) (fun d hd => List.mem_reverse.mp hd) (Nat.le_of_eq (wgtAll_rev _))) ⟨by decide, by omega⟩ (by rw [List.length_reverse, List.length_map]; omega)
          · exact val_tup (bd0.app (bd0.cut _ _)) ⟨by decide, by omega⟩ (by rw [List.length_append, List.length_map]; omega)
          · exact val_tup (rows_bd S0 b0) ⟨by decide, by omega⟩ (by rw [List.length_map]; omega)
      have lkd : ∀ v, lackB lot v = true → isNone dd = false := fun v hv => by
        rw [hdd, opt_none, hdue]
        exact lackB_due rl g1 g2 hv
      rw [← hWW]
      clear hWW bd0 b0 cl
      refine loopD_preI (fun pre ρ => ∃ (s11 s13 s14 : Sl), (Du s11 ∧ Du s13 ∧ Du s14) ∧ ρ = [.pot, .dat (floorD zs), .dat (.tuple (zs.map cellD)), .dat (.str (floorD zs).shown), .dat (.tuple (lot.map cellD)), .dat (.tuple [.int b1, .tuple (l1.map cellD)]), .dat (.tuple [.int b2, .tuple (l2.map cellD)]), .dat dd, .dat (.list VV), s9, s10, s11, s12, s13, s14, .emp, .emp]) WW _ ⟨s11, .emp, .emp, ⟨d11, .inl rfl, .inl rfl⟩, rfl⟩ ?_ ?_
      · rintro pre v post ρ N2 exs ⟨s11, s13, s14, ⟨d11, d13, d14⟩, rfl⟩ hN2
        obtain ⟨vf, vo⟩ := vW v (by rw [exs]; simp)
        refine dSeq_intro fun N3 hN3 => ?_
        walk_at "dl"
        refine ⟨vo.repr, lot, v, rfl, l8, ll, ⟨vf, vo.okD⟩, ?_⟩
        simp only []
        refine hN3 _ ?_
        clear hN3
        refine dSeq_intro fun N3 hN3 => ?_
        walk_at "dl"
        refine ⟨zs, lot, v, rfl, hz, ⟨lot2, ll⟩, vf, ?_⟩
        simp only []
        refine ⟨zs, lot, v, rfl, hz, ⟨lot2, ll⟩, vf, ?_⟩
        simp only []
        refine ⟨_, rfl, ⟨by simp [plainV, plainAll], by simp [PyData.depth, PyData.depthAll]⟩, ?_⟩
        simp only [Bool.not_true]
        refine ⟨vo.repr, ?_⟩
        unfold gEqR
        simp only [decide_true, if_true, Bool.not_true]
        refine hN3 _ ?_
        clear hN3
        walk_at "dl"
        have fin := hN2 [.pot, .dat (floorD zs), .dat (.tuple (zs.map cellD)), .dat (.str (floorD zs).shown), .dat (.tuple (lot.map cellD)), .dat (.tuple [.int b1, .tuple (l1.map cellD)]), .dat (.tuple [.int b2, .tuple (l2.map cellD)]), .dat dd, .dat (.list VV), s9, s10, .dat v, s12, .dat (.str v.shown), .dat (.bool (lackB lot v)), .emp, .emp] ⟨_, _, _, ⟨.inr ⟨_, rfl⟩, .inr ⟨_, rfl⟩, .inr ⟨_, rfl⟩⟩, rfl⟩
        cases el : lackB lot v with
        | false =>
          rw [el] at fin
          exact fin
        | true =>
          rw [el] at fin
          simp only [lkd v el]
          exact fin
      · rintro ρ ⟨s11, s13, s14, _, rfl⟩
        refine hN _ ?_
        walk_at "dl"
        refine ⟨bf.repr, ?_⟩
        unfold gEqR
        simp only [decide_true, if_false, Bool.false_eq_true]
        exact h
end
end K25



/-! The law. -/
namespace K25
open PySem PySem.Spec PyProof.Rows L2 DL
open PySem.W (AllAlike Sortable dataLe)
local macro_rules | `(tactic| walk_at "dl") => `(tactic| simp only [dSeq, dRet, dRetO, dRetN, dIsi, dName, dAndV, dOrV, dNotV, dAnd, dOr, dNot, dTr, dIf, dIfS, dNext, dNever, dBreak, dCont, dExpr, dSet, dOwn, dAsg, gSet, gTupD, gsCons, gsNil, dCall, dCallK, dACons, dANil, dAPot, dOp, dCB, dCons, dNil, dTup, dLst, dChain, gLen, gIx, gAbs, gInt, gTwo, gTuple, gList, dSl, gSl, dPart, dNoPart, dNeg, dRevT, startD, argSl, List.map_cons, List.map_nil, List.cons_append, List.nil_append, List.append_nil, List.getElem?_cons_zero, List.getElem?_cons_succ, List.set_cons_zero, List.set_cons_succ, List.length_cons, List.length_nil, List.replicate_succ, List.replicate_zero, dK, gCmpI, gLt, gI, gAdd, gMul, gEq, gIs, gIn, Res.data, oData, oLst, oLc, oList, oListRg, iSeq, iRg1, iRg2, iZip_, iEnumD, wipeD, dYes, dPotIx, dPotSet, dPeek, cPeek, dFor, dDat, dFreeze, dInSet, dSetSet, dSortSet, dPeekT, cPeekT, dTmpNew, dND, dNO, dNNil, dSpoil, oMul, dIxOwn, dInDic, dDicNew, dPar, dPar3, zD, zO, zC, xD, xO, RZ.sl, Res.sl, dDictP, dAppend, dExtend, dAugI, dTupOwn, oCall, dPopTo, oSorted, dSpoilAll, dGetDic, dIxDic, dInRdic, dRestDic, dPut2, dRNil, dRCons, dRDic, dCallR, dCallM, gLenD, gIsB, startR, startM, ar2Sl, dPar2z, dLenSet, gInDD, dForPop, dExtA, dSeqQ, gLtA, gSortA, gSort1, dJoin, oSplit, iSig, iEnumSD, gInS, dPopNew, dPotDiv, dCallPot, dRevL, Nat.reduceAdd, Nat.zero_add, Nat.reduceLeDiff, true_and, and_true, Bool.false_eq_true, if_true, if_false])
local macro_rules | `(tactic| walk_at "dv") => `(tactic| simp [isTup, isStr, DL.isInt, DL.isBool, isList, okD_int, okD_bool, okD_none, eqv_int, at0, at1, isNone])
section
variable {P : Program} {w : World} {K : PySem.W.Frag} {mg : Str → Option Value} {base : Heap}
theorem G__law_right (T : Txt K mg) : Good P w K mg base "_law_right" s__law_right 11 ["pot"] dfTrue := by
  have G__law_pick := GZ_law_pick (P := P) (w := w) (base := base) T
  have G__law_floor := GZ_law_floor (P := P) (w := w) (base := base) T
  have G__law_one_right := G__law_one_right (P := P) (w := w) (base := base) T
  refine good_mk (N := ["pot", "turn"]) T.f__law_right sc__law_right (fun _ _ _ _ _ _ us hl => match us, hl with | [_], _ => rfl) dfTrue_len (fun f cdv A outer s H E hr =>
    (dss_one (ds_ret (de_callB (cd_all rfl) T.b_all (dl_cons (DO.de (do_lc (own := [("turn", 1)]) rfl sc__law_right.nd (di_rg1 T.b_range (dl_cons de_int dl_nil)) (blkOk_by (own := [("turn", 1)]) (by rfl)) (fun _ _ _ _ _ => (dg_name 1 sc__law_right.nd)) (fun _ _ _ _ _ => dts_nil) (fun _ _ _ _ _ => (de_callG G__law_one_right (hr.mono (by decide)) (da_pot 0 (da_cons (de_callG G__law_floor (hr.mono (by decide)) (da_pot 0 (da_cons de_int (da_cons de_int (da_cons (de_callG G__law_pick (hr.mono (by decide)) (da_pot 0 (da_cons (de_lst (dl_cons de_int (dl_cons de_int (dl_cons de_int dl_nil)))) da_nil))) da_nil))))) da_nil)))) (by decide))) dl_nil))))) ?_
  intro as Q h
  unfold dfTrue at h
  split at h
  · walk_at "dl"
    have e5 : ((rgD 0 (Int.toNat 4)).all fun _ => true) = true := by decide +kernel
    refine ⟨⟨by decide, by decide⟩, lcD_map (fun _ => .bool true) _ _ (fun d _ Q hq => ?_) (by simp [rgD]) (gAll_map (fun _ => true) _ _ (by rw [e5]; exact h))⟩
    walk_at "dl"
    refine ⟨⟨by simp, by simp⟩, fun d hd => ?_⟩
    simp only []
    have go : ∀ odds : Nat, 1 ≤ odds ∧ odds ≤ 1000 → d = .int (odds : Nat) → dfFloorK [.p, .d (.int 4), .d (.int 4), .d d] fun r => dfOne [.p, .d (match r with | .dat d => d | .own ds => .list ds)] fun r => Q (match r with | .dat d => d | .own ds => .list ds) := fun odds ho e => by
      subst e
      exact ⟨odds, rfl, ho, fun zs hz hl => ⟨zs, rfl, ⟨hz, hl⟩, hq⟩⟩
    simp only [List.mem_cons, List.not_mem_nil, or_false] at hd
    rcases hd with rfl | rfl | rfl
    · exact go 3 (by decide) rfl
    · exact go 6 (by decide) rfl
    · exact go 20 (by decide) rfl
  · exact h.elim
theorem G_law (T : Txt K mg) : Good P w K mg base "law" s_law 12 ["script"] (dfLaw 63) := by
  have G__law_pot := GZ_law_pot (P := P) (w := w) (base := base) T
  have G__law_right := G__law_right (P := P) (w := w) (base := base) T
  refine good_mk (N := ["script", "k"]) T.f_law sc_law (fun _ _ _ _ _ _ us hl => match us, hl with | [_], _ => rfl) dfLaw_len (fun f cdv A outer s H E hr =>
    (dss_one (ds_ret (de_callB (cd_all rfl) T.b_all (dl_cons (DO.de (do_lc (own := [("k", 1)]) rfl sc_law.nd (di_rg1 T.b_range (dl_cons (de_callB (cd_max rfl) T.b_max (dl_cons de_int (dl_cons (de_callB (cd_min rfl) T.b_min (dl_cons de_int (dl_cons (de_callB (cd_len) T.b_len (dl_cons (de_name 0) dl_nil)) dl_nil))) dl_nil))) dl_nil)) (blkOk_by (own := [("k", 1)]) (by rfl)) (fun _ _ _ _ _ => (dg_name 1 sc_law.nd)) (fun _ _ _ _ _ => dts_nil) (fun _ _ _ _ _ => (de_callPot G__law_right (hr.mono (by decide)) (do_callG G__law_pot (hr.mono (by decide)) (da_cons (de_name 0) (da_cons (de_name 1) da_nil))))) (by decide))) dl_nil))))) ?_
  intro as Q h
  unfold dfLaw at h
  split at h
  · obtain ⟨⟨ns, rfl, hns⟩, h⟩ := h
    walk_at "dl"
    obtain ⟨n, hn, n2⟩ : ∃ n : Nat, (if (if (((ns.map PyData.int).length : Nat) : Int) < 2 then (((ns.map PyData.int).length : Nat) : Int) else 2) > 1 then (if (((ns.map PyData.int).length : Nat) : Int) < 2 then (((ns.map PyData.int).length : Nat) : Int) else 2) else 1) = (n : Int) ∧ n ≤ 2 := by
      by_cases a : (((ns.map PyData.int).length : Nat) : Int) < 2
      · refine ⟨1, ?_, by omega⟩
        rw [if_pos a]
        split <;> omega
      · exact ⟨2, by rw [if_neg a]; rfl, by omega⟩
    rw [hn]
    have en : ((n : Int)).toNat = n := by omega
    rw [en]
    refine ⟨⟨by omega, by omega⟩, lcD_map (fun _ => .bool true) _ _ (fun d hd Q hq => ?_) (by simp [rgD]; omega) (gAll_map (fun _ => true) _ _ ?_)⟩
    · unfold rgD at hd
      obtain ⟨k, hk, rfl⟩ := List.mem_map.mp hd
      have hk := List.mem_range.mp hk
      rw [Int.zero_add]
      walk_at "dl"
      refine ⟨ns, k, rfl, by omega, fun a b a0 b0 b1 => ?_⟩
      exact ⟨⟨a0, b0, b1⟩, hq⟩
    · have e5 : ((rgD 0 n).all fun _ => true) = true := by simp
      rw [e5]
      exact h
  · exact h.elim
end
end K25


namespace K25
open PySem PySem.Spec PyProof.Rows L2 DL
theorem at_mk {K : PySem.W.Frag} {h : Heap} {mg : Str → Option Value} {x : String} {st : Stmt} {a : Addr} {od an : Option Addr} {sl : Array (Option Value)} {oc kV dc pm cd ct : Value} (X : K.In h) (G : h.Ns mainGlobals mg)
    (na : PySem.W.nsIn K mainGlobals (Str.ofString x) = some (some (.ref a))) (l : K.lookup a = some ⟨oc, od, .func (PySem.W.fnOf (Str.ofString x) (Str.ofString x) (defArgs st) (defBody st) (defScope st) .none kV dc pm an cd ct), sl⟩) (c : PySem.W.codeIn K cd (Str.ofString x) = true) (k : PySem.W.keepIn K (.ref a) = true) : At K mg x st :=
  ⟨a, _, PySem.W.mg_of X G na, fun_mk (st := st) l c k⟩
theorem txt_mk {K : PySem.W.Frag} {h : Heap} {mg : Str → Option Value} (X : K.In h) (G : h.Ns mainGlobals mg)
    {a_is_count_to : Addr} {od_is_count_to an_is_count_to : Option Addr} {sl_is_count_to : Array (Option Value)} {oc_is_count_to kV_is_count_to dc_is_count_to pm_is_count_to cd_is_count_to ct_is_count_to : Value}
    {a_cell_is_right : Addr} {od_cell_is_right an_cell_is_right : Option Addr} {sl_cell_is_right : Array (Option Value)} {oc_cell_is_right kV_cell_is_right dc_cell_is_right pm_cell_is_right cd_cell_is_right ct_cell_is_right : Value}
    {a_are_rising : Addr} {od_are_rising an_are_rising : Option Addr} {sl_are_rising : Array (Option Value)} {oc_are_rising kV_are_rising dc_are_rising pm_are_rising cd_are_rising ct_are_rising : Value}
    {a_some_cells : Addr} {od_some_cells an_some_cells : Option Addr} {sl_some_cells : Array (Option Value)} {oc_some_cells kV_some_cells dc_some_cells pm_some_cells cd_some_cells ct_some_cells : Value}
    {a_pinch_of : Addr} {od_pinch_of an_pinch_of : Option Addr} {sl_pinch_of : Array (Option Value)} {oc_pinch_of kV_pinch_of dc_pinch_of pm_pinch_of cd_pinch_of ct_pinch_of : Value}
    {a_flaw_of : Addr} {od_flaw_of an_flaw_of : Option Addr} {sl_flaw_of : Array (Option Value)} {oc_flaw_of kV_flaw_of dc_flaw_of pm_flaw_of cd_flaw_of ct_flaw_of : Value}
    {a_floor_is_right : Addr} {od_floor_is_right an_floor_is_right : Option Addr} {sl_floor_is_right : Array (Option Value)} {oc_floor_is_right kV_floor_is_right dc_floor_is_right pm_floor_is_right cd_floor_is_right ct_floor_is_right : Value}
    {a_lot_is_right : Addr} {od_lot_is_right an_lot_is_right : Option Addr} {sl_lot_is_right : Array (Option Value)} {oc_lot_is_right kV_lot_is_right dc_lot_is_right pm_lot_is_right cd_lot_is_right ct_lot_is_right : Value}
    {a_check_floor : Addr} {od_check_floor an_check_floor : Option Addr} {sl_check_floor : Array (Option Value)} {oc_check_floor kV_check_floor dc_check_floor pm_check_floor cd_check_floor ct_check_floor : Value}
    {a_is_dark : Addr} {od_is_dark an_is_dark : Option Addr} {sl_is_dark : Array (Option Value)} {oc_is_dark kV_is_dark dc_is_dark pm_is_dark cd_is_dark ct_is_dark : Value}
    {a_beside : Addr} {od_beside an_beside : Option Addr} {sl_beside : Array (Option Value)} {oc_beside kV_beside dc_beside pm_beside cd_beside ct_beside : Value}
    {a_near_in : Addr} {od_near_in an_near_in : Option Addr} {sl_near_in : Array (Option Value)} {oc_near_in kV_near_in dc_near_in pm_near_in cd_near_in ct_near_in : Value}
    {a_way_from : Addr} {od_way_from an_way_from : Option Addr} {sl_way_from : Array (Option Value)} {oc_way_from kV_way_from dc_way_from pm_way_from cd_way_from ct_way_from : Value}
    {a_laid_along : Addr} {od_laid_along an_laid_along : Option Addr} {sl_laid_along : Array (Option Value)} {oc_laid_along kV_laid_along dc_laid_along pm_laid_along cd_laid_along ct_laid_along : Value}
    {a_most_pairs : Addr} {od_most_pairs an_most_pairs : Option Addr} {sl_most_pairs : Array (Option Value)} {oc_most_pairs kV_most_pairs dc_most_pairs pm_most_pairs cd_most_pairs ct_most_pairs : Value}
    {a_is_laid : Addr} {od_is_laid an_is_laid : Option Addr} {sl_is_laid : Array (Option Value)} {oc_is_laid kV_is_laid dc_is_laid pm_is_laid cd_is_laid ct_is_laid : Value}
    {a_come_to : Addr} {od_come_to an_come_to : Option Addr} {sl_come_to : Array (Option Value)} {oc_come_to kV_come_to dc_come_to pm_come_to cd_come_to ct_come_to : Value}
    {a_check_lot : Addr} {od_check_lot an_check_lot : Option Addr} {sl_check_lot : Array (Option Value)} {oc_check_lot kV_check_lot dc_check_lot pm_check_lot cd_check_lot ct_check_lot : Value}
    {a_can_lay : Addr} {od_can_lay an_can_lay : Option Addr} {sl_can_lay : Array (Option Value)} {oc_can_lay kV_can_lay dc_can_lay pm_can_lay cd_can_lay ct_can_lay : Value}
    {a_neighbours_in : Addr} {od_neighbours_in an_neighbours_in : Option Addr} {sl_neighbours_in : Array (Option Value)} {oc_neighbours_in kV_neighbours_in dc_neighbours_in pm_neighbours_in cd_neighbours_in ct_neighbours_in : Value}
    {a_size_in : Addr} {od_size_in an_size_in : Option Addr} {sl_size_in : Array (Option Value)} {oc_size_in kV_size_in dc_size_in pm_size_in cd_size_in ct_size_in : Value}
    {a_lot_of_lot : Addr} {od_lot_of_lot an_lot_of_lot : Option Addr} {sl_lot_of_lot : Array (Option Value)} {oc_lot_of_lot kV_lot_of_lot dc_lot_of_lot pm_lot_of_lot cd_lot_of_lot ct_lot_of_lot : Value}
    {a_has_one_colour : Addr} {od_has_one_colour an_has_one_colour : Option Addr} {sl_has_one_colour : Array (Option Value)} {oc_has_one_colour kV_has_one_colour dc_has_one_colour pm_has_one_colour cd_has_one_colour ct_has_one_colour : Value}
    {a_lack_by : Addr} {od_lack_by an_lack_by : Option Addr} {sl_lack_by : Array (Option Value)} {oc_lack_by kV_lack_by dc_lack_by pm_lack_by cd_lack_by ct_lack_by : Value}
    {a_check_cells : Addr} {od_check_cells an_check_cells : Option Addr} {sl_check_cells : Array (Option Value)} {oc_check_cells kV_check_cells dc_check_cells pm_check_cells cd_check_cells ct_check_cells : Value}
    {a_neighbours : Addr} {od_neighbours an_neighbours : Option Addr} {sl_neighbours : Array (Option Value)} {oc_neighbours kV_neighbours dc_neighbours pm_neighbours cd_neighbours ct_neighbours : Value}
    {a_is_lack : Addr} {od_is_lack an_is_lack : Option Addr} {sl_is_lack : Array (Option Value)} {oc_is_lack kV_is_lack dc_is_lack pm_is_lack cd_is_lack ct_is_lack : Value}
    {a_lack : Addr} {od_lack an_lack : Option Addr} {sl_lack : Array (Option Value)} {oc_lack kV_lack dc_lack pm_lack cd_lack ct_lack : Value}
    {a_lack_size : Addr} {od_lack_size an_lack_size : Option Addr} {sl_lack_size : Array (Option Value)} {oc_lack_size kV_lack_size dc_lack_size pm_lack_size cd_lack_size ct_lack_size : Value}
    {a__law_pot : Addr} {od__law_pot an__law_pot : Option Addr} {sl__law_pot : Array (Option Value)} {oc__law_pot kV__law_pot dc__law_pot pm__law_pot cd__law_pot ct__law_pot : Value}
    {a__law_draw : Addr} {od__law_draw an__law_draw : Option Addr} {sl__law_draw : Array (Option Value)} {oc__law_draw kV__law_draw dc__law_draw pm__law_draw cd__law_draw ct__law_draw : Value}
    {a__law_pick : Addr} {od__law_pick an__law_pick : Option Addr} {sl__law_pick : Array (Option Value)} {oc__law_pick kV__law_pick dc__law_pick pm__law_pick cd__law_pick ct__law_pick : Value}
    {a__law_same : Addr} {od__law_same an__law_same : Option Addr} {sl__law_same : Array (Option Value)} {oc__law_same kV__law_same dc__law_same pm__law_same cd__law_same ct__law_same : Value}
    {a__law_dark : Addr} {od__law_dark an__law_dark : Option Addr} {sl__law_dark : Array (Option Value)} {oc__law_dark kV__law_dark dc__law_dark pm__law_dark cd__law_dark ct__law_dark : Value}
    {a__law_pinch : Addr} {od__law_pinch an__law_pinch : Option Addr} {sl__law_pinch : Array (Option Value)} {oc__law_pinch kV__law_pinch dc__law_pinch pm__law_pinch cd__law_pinch ct__law_pinch : Value}
    {a__law_floor : Addr} {od__law_floor an__law_floor : Option Addr} {sl__law_floor : Array (Option Value)} {oc__law_floor kV__law_floor dc__law_floor pm__law_floor cd__law_floor ct__law_floor : Value}
    {a__law_beside : Addr} {od__law_beside an__law_beside : Option Addr} {sl__law_beside : Array (Option Value)} {oc__law_beside kV__law_beside dc__law_beside pm__law_beside cd__law_beside ct__law_beside : Value}
    {a__law_layings : Addr} {od__law_layings an__law_layings : Option Addr} {sl__law_layings : Array (Option Value)} {oc__law_layings kV__law_layings dc__law_layings pm__law_layings cd__law_layings ct__law_layings : Value}
    {a__law_lot : Addr} {od__law_lot an__law_lot : Option Addr} {sl__law_lot : Array (Option Value)} {oc__law_lot kV__law_lot dc__law_lot pm__law_lot cd__law_lot ct__law_lot : Value}
    {a__law_near : Addr} {od__law_near an__law_near : Option Addr} {sl__law_near : Array (Option Value)} {oc__law_near kV__law_near dc__law_near pm__law_near cd__law_near ct__law_near : Value}
    {a__law_lots : Addr} {od__law_lots an__law_lots : Option Addr} {sl__law_lots : Array (Option Value)} {oc__law_lots kV__law_lots dc__law_lots pm__law_lots cd__law_lots ct__law_lots : Value}
    {a__law_greatest : Addr} {od__law_greatest an__law_greatest : Option Addr} {sl__law_greatest : Array (Option Value)} {oc__law_greatest kV__law_greatest dc__law_greatest pm__law_greatest cd__law_greatest ct__law_greatest : Value}
    {a__law_is_lack : Addr} {od__law_is_lack an__law_is_lack : Option Addr} {sl__law_is_lack : Array (Option Value)} {oc__law_is_lack kV__law_is_lack dc__law_is_lack pm__law_is_lack cd__law_is_lack ct__law_is_lack : Value}
    {a__law_one_right : Addr} {od__law_one_right an__law_one_right : Option Addr} {sl__law_one_right : Array (Option Value)} {oc__law_one_right kV__law_one_right dc__law_one_right pm__law_one_right cd__law_one_right ct__law_one_right : Value}
    {a__law_right : Addr} {od__law_right an__law_right : Option Addr} {sl__law_right : Array (Option Value)} {oc__law_right kV__law_right dc__law_right pm__law_right cd__law_right ct__law_right : Value}
    {a_law : Addr} {od_law an_law : Option Addr} {sl_law : Array (Option Value)} {oc_law kV_law dc_law pm_law cd_law ct_law : Value}
    {t_MOST_CELLS : Tok}
    {t_LAST : Tok}
    (n_is_count_to : PySem.W.nsIn K mainGlobals (Str.ofString "is_count_to") = some (some (.ref a_is_count_to)))
    (l_is_count_to : K.lookup a_is_count_to = some ⟨oc_is_count_to, od_is_count_to, .func (PySem.W.fnOf (Str.ofString "is_count_to") (Str.ofString "is_count_to") (defArgs s_is_count_to) (defBody s_is_count_to) (defScope s_is_count_to) .none kV_is_count_to dc_is_count_to pm_is_count_to an_is_count_to cd_is_count_to ct_is_count_to), sl_is_count_to⟩)
    (c_is_count_to : PySem.W.codeIn K cd_is_count_to (Str.ofString "is_count_to") = true) (k_is_count_to : PySem.W.keepIn K (.ref a_is_count_to) = true)
    (n_cell_is_right : PySem.W.nsIn K mainGlobals (Str.ofString "cell_is_right") = some (some (.ref a_cell_is_right)))
    (l_cell_is_right : K.lookup a_cell_is_right = some ⟨oc_cell_is_right, od_cell_is_right, .func (PySem.W.fnOf (Str.ofString "cell_is_right") (Str.ofString "cell_is_right") (defArgs s_cell_is_right) (defBody s_cell_is_right) (defScope s_cell_is_right) .none kV_cell_is_right dc_cell_is_right pm_cell_is_right an_cell_is_right cd_cell_is_right ct_cell_is_right), sl_cell_is_right⟩)
    (c_cell_is_right : PySem.W.codeIn K cd_cell_is_right (Str.ofString "cell_is_right") = true) (k_cell_is_right : PySem.W.keepIn K (.ref a_cell_is_right) = true)
    (n_are_rising : PySem.W.nsIn K mainGlobals (Str.ofString "are_rising") = some (some (.ref a_are_rising)))
    (l_are_rising : K.lookup a_are_rising = some ⟨oc_are_rising, od_are_rising, .func (PySem.W.fnOf (Str.ofString "are_rising") (Str.ofString "are_rising") (defArgs s_are_rising) (defBody s_are_rising) (defScope s_are_rising) .none kV_are_rising dc_are_rising pm_are_rising an_are_rising cd_are_rising ct_are_rising), sl_are_rising⟩)
    (c_are_rising : PySem.W.codeIn K cd_are_rising (Str.ofString "are_rising") = true) (k_are_rising : PySem.W.keepIn K (.ref a_are_rising) = true)
    (n_some_cells : PySem.W.nsIn K mainGlobals (Str.ofString "some_cells") = some (some (.ref a_some_cells)))
    (l_some_cells : K.lookup a_some_cells = some ⟨oc_some_cells, od_some_cells, .func (PySem.W.fnOf (Str.ofString "some_cells") (Str.ofString "some_cells") (defArgs s_some_cells) (defBody s_some_cells) (defScope s_some_cells) .none kV_some_cells dc_some_cells pm_some_cells an_some_cells cd_some_cells ct_some_cells), sl_some_cells⟩)
    (c_some_cells : PySem.W.codeIn K cd_some_cells (Str.ofString "some_cells") = true) (k_some_cells : PySem.W.keepIn K (.ref a_some_cells) = true)
    (n_pinch_of : PySem.W.nsIn K mainGlobals (Str.ofString "pinch_of") = some (some (.ref a_pinch_of)))
    (l_pinch_of : K.lookup a_pinch_of = some ⟨oc_pinch_of, od_pinch_of, .func (PySem.W.fnOf (Str.ofString "pinch_of") (Str.ofString "pinch_of") (defArgs s_pinch_of) (defBody s_pinch_of) (defScope s_pinch_of) .none kV_pinch_of dc_pinch_of pm_pinch_of an_pinch_of cd_pinch_of ct_pinch_of), sl_pinch_of⟩)
    (c_pinch_of : PySem.W.codeIn K cd_pinch_of (Str.ofString "pinch_of") = true) (k_pinch_of : PySem.W.keepIn K (.ref a_pinch_of) = true)
    (n_flaw_of : PySem.W.nsIn K mainGlobals (Str.ofString "flaw_of") = some (some (.ref a_flaw_of)))
    (l_flaw_of : K.lookup a_flaw_of = some ⟨oc_flaw_of, od_flaw_of, .func (PySem.W.fnOf (Str.ofString "flaw_of") (Str.ofString "flaw_of") (defArgs s_flaw_of) (defBody s_flaw_of) (defScope s_flaw_of) .none kV_flaw_of dc_flaw_of pm_flaw_of an_flaw_of cd_flaw_of ct_flaw_of), sl_flaw_of⟩)
    (c_flaw_of : PySem.W.codeIn K cd_flaw_of (Str.ofString "flaw_of") = true) (k_flaw_of : PySem.W.keepIn K (.ref a_flaw_of) = true)
    (n_floor_is_right : PySem.W.nsIn K mainGlobals (Str.ofString "floor_is_right") = some (some (.ref a_floor_is_right)))
    (l_floor_is_right : K.lookup a_floor_is_right = some ⟨oc_floor_is_right, od_floor_is_right, .func (PySem.W.fnOf (Str.ofString "floor_is_right") (Str.ofString "floor_is_right") (defArgs s_floor_is_right) (defBody s_floor_is_right) (defScope s_floor_is_right) .none kV_floor_is_right dc_floor_is_right pm_floor_is_right an_floor_is_right cd_floor_is_right ct_floor_is_right), sl_floor_is_right⟩)
    (c_floor_is_right : PySem.W.codeIn K cd_floor_is_right (Str.ofString "floor_is_right") = true) (k_floor_is_right : PySem.W.keepIn K (.ref a_floor_is_right) = true)
    (n_lot_is_right : PySem.W.nsIn K mainGlobals (Str.ofString "lot_is_right") = some (some (.ref a_lot_is_right)))
    (l_lot_is_right : K.lookup a_lot_is_right = some ⟨oc_lot_is_right, od_lot_is_right, .func (PySem.W.fnOf (Str.ofString "lot_is_right") (Str.ofString "lot_is_right") (defArgs s_lot_is_right) (defBody s_lot_is_right) (defScope s_lot_is_right) .none kV_lot_is_right dc_lot_is_right pm_lot_is_right an_lot_is_right cd_lot_is_right ct_lot_is_right), sl_lot_is_right⟩)
    (c_lot_is_right : PySem.W.codeIn K cd_lot_is_right (Str.ofString "lot_is_right") = true) (k_lot_is_right : PySem.W.keepIn K (.ref a_lot_is_right) = true)
    (n_check_floor : PySem.W.nsIn K mainGlobals (Str.ofString "check_floor") = some (some (.ref a_check_floor)))
    (l_check_floor : K.lookup a_check_floor = some ⟨oc_check_floor, od_check_floor, .func (PySem.W.fnOf (Str.ofString "check_floor") (Str.ofString "check_floor") (defArgs s_check_floor) (defBody s_check_floor) (defScope s_check_floor) .none kV_check_floor dc_check_floor pm_check_floor an_check_floor cd_check_floor ct_check_floor), sl_check_floor⟩)
    (c_check_floor : PySem.W.codeIn K cd_check_floor (Str.ofString "check_floor") = true) (k_check_floor : PySem.W.keepIn K (.ref a_check_floor) = true)
    (n_is_dark : PySem.W.nsIn K mainGlobals (Str.ofString "is_dark") = some (some (.ref a_is_dark)))
    (l_is_dark : K.lookup a_is_dark = some ⟨oc_is_dark, od_is_dark, .func (PySem.W.fnOf (Str.ofString "is_dark") (Str.ofString "is_dark") (defArgs s_is_dark) (defBody s_is_dark) (defScope s_is_dark) .none kV_is_dark dc_is_dark pm_is_dark an_is_dark cd_is_dark ct_is_dark), sl_is_dark⟩)
    (c_is_dark : PySem.W.codeIn K cd_is_dark (Str.ofString "is_dark") = true) (k_is_dark : PySem.W.keepIn K (.ref a_is_dark) = true)
    (n_beside : PySem.W.nsIn K mainGlobals (Str.ofString "beside") = some (some (.ref a_beside)))
    (l_beside : K.lookup a_beside = some ⟨oc_beside, od_beside, .func (PySem.W.fnOf (Str.ofString "beside") (Str.ofString "beside") (defArgs s_beside) (defBody s_beside) (defScope s_beside) .none kV_beside dc_beside pm_beside an_beside cd_beside ct_beside), sl_beside⟩)
    (c_beside : PySem.W.codeIn K cd_beside (Str.ofString "beside") = true) (k_beside : PySem.W.keepIn K (.ref a_beside) = true)
    (n_near_in : PySem.W.nsIn K mainGlobals (Str.ofString "near_in") = some (some (.ref a_near_in)))
    (l_near_in : K.lookup a_near_in = some ⟨oc_near_in, od_near_in, .func (PySem.W.fnOf (Str.ofString "near_in") (Str.ofString "near_in") (defArgs s_near_in) (defBody s_near_in) (defScope s_near_in) .none kV_near_in dc_near_in pm_near_in an_near_in cd_near_in ct_near_in), sl_near_in⟩)
    (c_near_in : PySem.W.codeIn K cd_near_in (Str.ofString "near_in") = true) (k_near_in : PySem.W.keepIn K (.ref a_near_in) = true)
    (n_way_from : PySem.W.nsIn K mainGlobals (Str.ofString "way_from") = some (some (.ref a_way_from)))
    (l_way_from : K.lookup a_way_from = some ⟨oc_way_from, od_way_from, .func (PySem.W.fnOf (Str.ofString "way_from") (Str.ofString "way_from") (defArgs s_way_from) (defBody s_way_from) (defScope s_way_from) .none kV_way_from dc_way_from pm_way_from an_way_from cd_way_from ct_way_from), sl_way_from⟩)
    (c_way_from : PySem.W.codeIn K cd_way_from (Str.ofString "way_from") = true) (k_way_from : PySem.W.keepIn K (.ref a_way_from) = true)
    (n_laid_along : PySem.W.nsIn K mainGlobals (Str.ofString "laid_along") = some (some (.ref a_laid_along)))
    (l_laid_along : K.lookup a_laid_along = some ⟨oc_laid_along, od_laid_along, .func (PySem.W.fnOf (Str.ofString "laid_along") (Str.ofString "laid_along") (defArgs s_laid_along) (defBody s_laid_along) (defScope s_laid_along) .none kV_laid_along dc_laid_along pm_laid_along an_laid_along cd_laid_along ct_laid_along), sl_laid_along⟩)
    (c_laid_along : PySem.W.codeIn K cd_laid_along (Str.ofString "laid_along") = true) (k_laid_along : PySem.W.keepIn K (.ref a_laid_along) = true)
    (n_most_pairs : PySem.W.nsIn K mainGlobals (Str.ofString "most_pairs") = some (some (.ref a_most_pairs)))
    (l_most_pairs : K.lookup a_most_pairs = some ⟨oc_most_pairs, od_most_pairs, .func (PySem.W.fnOf (Str.ofString "most_pairs") (Str.ofString "most_pairs") (defArgs s_most_pairs) (defBody s_most_pairs) (defScope s_most_pairs) .none kV_most_pairs dc_most_pairs pm_most_pairs an_most_pairs cd_most_pairs ct_most_pairs), sl_most_pairs⟩)
    (c_most_pairs : PySem.W.codeIn K cd_most_pairs (Str.ofString "most_pairs") = true) (k_most_pairs : PySem.W.keepIn K (.ref a_most_pairs) = true)
    (n_is_laid : PySem.W.nsIn K mainGlobals (Str.ofString "is_laid") = some (some (.ref a_is_laid)))
    (l_is_laid : K.lookup a_is_laid = some ⟨oc_is_laid, od_is_laid, .func (PySem.W.fnOf (Str.ofString "is_laid") (Str.ofString "is_laid") (defArgs s_is_laid) (defBody s_is_laid) (defScope s_is_laid) .none kV_is_laid dc_is_laid pm_is_laid an_is_laid cd_is_laid ct_is_laid), sl_is_laid⟩)
    (c_is_laid : PySem.W.codeIn K cd_is_laid (Str.ofString "is_laid") = true) (k_is_laid : PySem.W.keepIn K (.ref a_is_laid) = true)
    (n_come_to : PySem.W.nsIn K mainGlobals (Str.ofString "come_to") = some (some (.ref a_come_to)))
    (l_come_to : K.lookup a_come_to = some ⟨oc_come_to, od_come_to, .func (PySem.W.fnOf (Str.ofString "come_to") (Str.ofString "come_to") (defArgs s_come_to) (defBody s_come_to) (defScope s_come_to) .none kV_come_to dc_come_to pm_come_to an_come_to cd_come_to ct_come_to), sl_come_to⟩)
    (c_come_to : PySem.W.codeIn K cd_come_to (Str.ofString "come_to") = true) (k_come_to : PySem.W.keepIn K (.ref a_come_to) = true)
    (n_check_lot : PySem.W.nsIn K mainGlobals (Str.ofString "check_lot") = some (some (.ref a_check_lot)))
    (l_check_lot : K.lookup a_check_lot = some ⟨oc_check_lot, od_check_lot, .func (PySem.W.fnOf (Str.ofString "check_lot") (Str.ofString "check_lot") (defArgs s_check_lot) (defBody s_check_lot) (defScope s_check_lot) .none kV_check_lot dc_check_lot pm_check_lot an_check_lot cd_check_lot ct_check_lot), sl_check_lot⟩)
    (c_check_lot : PySem.W.codeIn K cd_check_lot (Str.ofString "check_lot") = true) (k_check_lot : PySem.W.keepIn K (.ref a_check_lot) = true)
    (n_can_lay : PySem.W.nsIn K mainGlobals (Str.ofString "can_lay") = some (some (.ref a_can_lay)))
    (l_can_lay : K.lookup a_can_lay = some ⟨oc_can_lay, od_can_lay, .func (PySem.W.fnOf (Str.ofString "can_lay") (Str.ofString "can_lay") (defArgs s_can_lay) (defBody s_can_lay) (defScope s_can_lay) .none kV_can_lay dc_can_lay pm_can_lay an_can_lay cd_can_lay ct_can_lay), sl_can_lay⟩)
    (c_can_lay : PySem.W.codeIn K cd_can_lay (Str.ofString "can_lay") = true) (k_can_lay : PySem.W.keepIn K (.ref a_can_lay) = true)
    (n_neighbours_in : PySem.W.nsIn K mainGlobals (Str.ofString "neighbours_in") = some (some (.ref a_neighbours_in)))
    (l_neighbours_in : K.lookup a_neighbours_in = some ⟨oc_neighbours_in, od_neighbours_in, .func (PySem.W.fnOf (Str.ofString "neighbours_in") (Str.ofString "neighbours_in") (defArgs s_neighbours_in) (defBody s_neighbours_in) (defScope s_neighbours_in) .none kV_neighbours_in dc_neighbours_in pm_neighbours_in an_neighbours_in cd_neighbours_in ct_neighbours_in), sl_neighbours_in⟩)
    (c_neighbours_in : PySem.W.codeIn K cd_neighbours_in (Str.ofString "neighbours_in") = true) (k_neighbours_in : PySem.W.keepIn K (.ref a_neighbours_in) = true)
    (n_size_in : PySem.W.nsIn K mainGlobals (Str.ofString "size_in") = some (some (.ref a_size_in)))
    (l_size_in : K.lookup a_size_in = some ⟨oc_size_in, od_size_in, .func (PySem.W.fnOf (Str.ofString "size_in") (Str.ofString "size_in") (defArgs s_size_in) (defBody s_size_in) (defScope s_size_in) .none kV_size_in dc_size_in pm_size_in an_size_in cd_size_in ct_size_in), sl_size_in⟩)
    (c_size_in : PySem.W.codeIn K cd_size_in (Str.ofString "size_in") = true) (k_size_in : PySem.W.keepIn K (.ref a_size_in) = true)
    (n_lot_of_lot : PySem.W.nsIn K mainGlobals (Str.ofString "lot_of_lot") = some (some (.ref a_lot_of_lot)))
    (l_lot_of_lot : K.lookup a_lot_of_lot = some ⟨oc_lot_of_lot, od_lot_of_lot, .func (PySem.W.fnOf (Str.ofString "lot_of_lot") (Str.ofString "lot_of_lot") (defArgs s_lot_of_lot) (defBody s_lot_of_lot) (defScope s_lot_of_lot) .none kV_lot_of_lot dc_lot_of_lot pm_lot_of_lot an_lot_of_lot cd_lot_of_lot ct_lot_of_lot), sl_lot_of_lot⟩)
    (c_lot_of_lot : PySem.W.codeIn K cd_lot_of_lot (Str.ofString "lot_of_lot") = true) (k_lot_of_lot : PySem.W.keepIn K (.ref a_lot_of_lot) = true)
    (n_has_one_colour : PySem.W.nsIn K mainGlobals (Str.ofString "has_one_colour") = some (some (.ref a_has_one_colour)))
    (l_has_one_colour : K.lookup a_has_one_colour = some ⟨oc_has_one_colour, od_has_one_colour, .func (PySem.W.fnOf (Str.ofString "has_one_colour") (Str.ofString "has_one_colour") (defArgs s_has_one_colour) (defBody s_has_one_colour) (defScope s_has_one_colour) .none kV_has_one_colour dc_has_one_colour pm_has_one_colour an_has_one_colour cd_has_one_colour ct_has_one_colour), sl_has_one_colour⟩)
    (c_has_one_colour : PySem.W.codeIn K cd_has_one_colour (Str.ofString "has_one_colour") = true) (k_has_one_colour : PySem.W.keepIn K (.ref a_has_one_colour) = true)
    (n_lack_by : PySem.W.nsIn K mainGlobals (Str.ofString "lack_by") = some (some (.ref a_lack_by)))
    (l_lack_by : K.lookup a_lack_by = some ⟨oc_lack_by, od_lack_by, .func (PySem.W.fnOf (Str.ofString "lack_by") (Str.ofString "lack_by") (defArgs s_lack_by) (defBody s_lack_by) (defScope s_lack_by) .none kV_lack_by dc_lack_by pm_lack_by an_lack_by cd_lack_by ct_lack_by), sl_lack_by⟩)
    (c_lack_by : PySem.W.codeIn K cd_lack_by (Str.ofString "lack_by") = true) (k_lack_by : PySem.W.keepIn K (.ref a_lack_by) = true)
    (n_check_cells : PySem.W.nsIn K mainGlobals (Str.ofString "check_cells") = some (some (.ref a_check_cells)))
    (l_check_cells : K.lookup a_check_cells = some ⟨oc_check_cells, od_check_cells, .func (PySem.W.fnOf (Str.ofString "check_cells") (Str.ofString "check_cells") (defArgs s_check_cells) (defBody s_check_cells) (defScope s_check_cells) .none kV_check_cells dc_check_cells pm_check_cells an_check_cells cd_check_cells ct_check_cells), sl_check_cells⟩)
    (c_check_cells : PySem.W.codeIn K cd_check_cells (Str.ofString "check_cells") = true) (k_check_cells : PySem.W.keepIn K (.ref a_check_cells) = true)
    (n_neighbours : PySem.W.nsIn K mainGlobals (Str.ofString "neighbours") = some (some (.ref a_neighbours)))
    (l_neighbours : K.lookup a_neighbours = some ⟨oc_neighbours, od_neighbours, .func (PySem.W.fnOf (Str.ofString "neighbours") (Str.ofString "neighbours") (defArgs s_neighbours) (defBody s_neighbours) (defScope s_neighbours) .none kV_neighbours dc_neighbours pm_neighbours an_neighbours cd_neighbours ct_neighbours), sl_neighbours⟩)
    (c_neighbours : PySem.W.codeIn K cd_neighbours (Str.ofString "neighbours") = true) (k_neighbours : PySem.W.keepIn K (.ref a_neighbours) = true)
    (n_is_lack : PySem.W.nsIn K mainGlobals (Str.ofString "is_lack") = some (some (.ref a_is_lack)))
    (l_is_lack : K.lookup a_is_lack = some ⟨oc_is_lack, od_is_lack, .func (PySem.W.fnOf (Str.ofString "is_lack") (Str.ofString "is_lack") (defArgs s_is_lack) (defBody s_is_lack) (defScope s_is_lack) .none kV_is_lack dc_is_lack pm_is_lack an_is_lack cd_is_lack ct_is_lack), sl_is_lack⟩)
    (c_is_lack : PySem.W.codeIn K cd_is_lack (Str.ofString "is_lack") = true) (k_is_lack : PySem.W.keepIn K (.ref a_is_lack) = true)
    (n_lack : PySem.W.nsIn K mainGlobals (Str.ofString "lack") = some (some (.ref a_lack)))
    (l_lack : K.lookup a_lack = some ⟨oc_lack, od_lack, .func (PySem.W.fnOf (Str.ofString "lack") (Str.ofString "lack") (defArgs s_lack) (defBody s_lack) (defScope s_lack) .none kV_lack dc_lack pm_lack an_lack cd_lack ct_lack), sl_lack⟩)
    (c_lack : PySem.W.codeIn K cd_lack (Str.ofString "lack") = true) (k_lack : PySem.W.keepIn K (.ref a_lack) = true)
    (n_lack_size : PySem.W.nsIn K mainGlobals (Str.ofString "lack_size") = some (some (.ref a_lack_size)))
    (l_lack_size : K.lookup a_lack_size = some ⟨oc_lack_size, od_lack_size, .func (PySem.W.fnOf (Str.ofString "lack_size") (Str.ofString "lack_size") (defArgs s_lack_size) (defBody s_lack_size) (defScope s_lack_size) .none kV_lack_size dc_lack_size pm_lack_size an_lack_size cd_lack_size ct_lack_size), sl_lack_size⟩)
    (c_lack_size : PySem.W.codeIn K cd_lack_size (Str.ofString "lack_size") = true) (k_lack_size : PySem.W.keepIn K (.ref a_lack_size) = true)
    (n__law_pot : PySem.W.nsIn K mainGlobals (Str.ofString "_law_pot") = some (some (.ref a__law_pot)))
    (l__law_pot : K.lookup a__law_pot = some ⟨oc__law_pot, od__law_pot, .func (PySem.W.fnOf (Str.ofString "_law_pot") (Str.ofString "_law_pot") (defArgs s__law_pot) (defBody s__law_pot) (defScope s__law_pot) .none kV__law_pot dc__law_pot pm__law_pot an__law_pot cd__law_pot ct__law_pot), sl__law_pot⟩)
    (c__law_pot : PySem.W.codeIn K cd__law_pot (Str.ofString "_law_pot") = true) (k__law_pot : PySem.W.keepIn K (.ref a__law_pot) = true)
    (n__law_draw : PySem.W.nsIn K mainGlobals (Str.ofString "_law_draw") = some (some (.ref a__law_draw)))
    (l__law_draw : K.lookup a__law_draw = some ⟨oc__law_draw, od__law_draw, .func (PySem.W.fnOf (Str.ofString "_law_draw") (Str.ofString "_law_draw") (defArgs s__law_draw) (defBody s__law_draw) (defScope s__law_draw) .none kV__law_draw dc__law_draw pm__law_draw an__law_draw cd__law_draw ct__law_draw), sl__law_draw⟩)
    (c__law_draw : PySem.W.codeIn K cd__law_draw (Str.ofString "_law_draw") = true) (k__law_draw : PySem.W.keepIn K (.ref a__law_draw) = true)
    (n__law_pick : PySem.W.nsIn K mainGlobals (Str.ofString "_law_pick") = some (some (.ref a__law_pick)))
    (l__law_pick : K.lookup a__law_pick = some ⟨oc__law_pick, od__law_pick, .func (PySem.W.fnOf (Str.ofString "_law_pick") (Str.ofString "_law_pick") (defArgs s__law_pick) (defBody s__law_pick) (defScope s__law_pick) .none kV__law_pick dc__law_pick pm__law_pick an__law_pick cd__law_pick ct__law_pick), sl__law_pick⟩)
    (c__law_pick : PySem.W.codeIn K cd__law_pick (Str.ofString "_law_pick") = true) (k__law_pick : PySem.W.keepIn K (.ref a__law_pick) = true)
    (n__law_same : PySem.W.nsIn K mainGlobals (Str.ofString "_law_same") = some (some (.ref a__law_same)))
    (l__law_same : K.lookup a__law_same = some ⟨oc__law_same, od__law_same, .func (PySem.W.fnOf (Str.ofString "_law_same") (Str.ofString "_law_same") (defArgs s__law_same) (defBody s__law_same) (defScope s__law_same) .none kV__law_same dc__law_same pm__law_same an__law_same cd__law_same ct__law_same), sl__law_same⟩)
    (c__law_same : PySem.W.codeIn K cd__law_same (Str.ofString "_law_same") = true) (k__law_same : PySem.W.keepIn K (.ref a__law_same) = true)
    (n__law_dark : PySem.W.nsIn K mainGlobals (Str.ofString "_law_dark") = some (some (.ref a__law_dark)))
    (l__law_dark : K.lookup a__law_dark = some ⟨oc__law_dark, od__law_dark, .func (PySem.W.fnOf (Str.ofString "_law_dark") (Str.ofString "_law_dark") (defArgs s__law_dark) (defBody s__law_dark) (defScope s__law_dark) .none kV__law_dark dc__law_dark pm__law_dark an__law_dark cd__law_dark ct__law_dark), sl__law_dark⟩)
    (c__law_dark : PySem.W.codeIn K cd__law_dark (Str.ofString "_law_dark") = true) (k__law_dark : PySem.W.keepIn K (.ref a__law_dark) = true)
    (n__law_pinch : PySem.W.nsIn K mainGlobals (Str.ofString "_law_pinch") = some (some (.ref a__law_pinch)))
    (l__law_pinch : K.lookup a__law_pinch = some ⟨oc__law_pinch, od__law_pinch, .func (PySem.W.fnOf (Str.ofString "_law_pinch") (Str.ofString "_law_pinch") (defArgs s__law_pinch) (defBody s__law_pinch) (defScope s__law_pinch) .none kV__law_pinch dc__law_pinch pm__law_pinch an__law_pinch cd__law_pinch ct__law_pinch), sl__law_pinch⟩)
    (c__law_pinch : PySem.W.codeIn K cd__law_pinch (Str.ofString "_law_pinch") = true) (k__law_pinch : PySem.W.keepIn K (.ref a__law_pinch) = true)
    (n__law_floor : PySem.W.nsIn K mainGlobals (Str.ofString "_law_floor") = some (some (.ref a__law_floor)))
    (l__law_floor : K.lookup a__law_floor = some ⟨oc__law_floor, od__law_floor, .func (PySem.W.fnOf (Str.ofString "_law_floor") (Str.ofString "_law_floor") (defArgs s__law_floor) (defBody s__law_floor) (defScope s__law_floor) .none kV__law_floor dc__law_floor pm__law_floor an__law_floor cd__law_floor ct__law_floor), sl__law_floor⟩)
    (c__law_floor : PySem.W.codeIn K cd__law_floor (Str.ofString "_law_floor") = true) (k__law_floor : PySem.W.keepIn K (.ref a__law_floor) = true)
    (n__law_beside : PySem.W.nsIn K mainGlobals (Str.ofString "_law_beside") = some (some (.ref a__law_beside)))
    (l__law_beside : K.lookup a__law_beside = some ⟨oc__law_beside, od__law_beside, .func (PySem.W.fnOf (Str.ofString "_law_beside") (Str.ofString "_law_beside") (defArgs s__law_beside) (defBody s__law_beside) (defScope s__law_beside) .none kV__law_beside dc__law_beside pm__law_beside an__law_beside cd__law_beside ct__law_beside), sl__law_beside⟩)
    (c__law_beside : PySem.W.codeIn K cd__law_beside (Str.ofString "_law_beside") = true) (k__law_beside : PySem.W.keepIn K (.ref a__law_beside) = true)
    (n__law_layings : PySem.W.nsIn K mainGlobals (Str.ofString "_law_layings") = some (some (.ref a__law_layings)))
    (l__law_layings : K.lookup a__law_layings = some ⟨oc__law_layings, od__law_layings, .func (PySem.W.fnOf (Str.ofString "_law_layings") (Str.ofString "_law_layings") (defArgs s__law_layings) (defBody s__law_layings) (defScope s__law_layings) .none kV__law_layings dc__law_layings pm__law_layings an__law_layings cd__law_layings ct__law_layings), sl__law_layings⟩)
    (c__law_layings : PySem.W.codeIn K cd__law_layings (Str.ofString "_law_layings") = true) (k__law_layings : PySem.W.keepIn K (.ref a__law_layings) = true)
    (n__law_lot : PySem.W.nsIn K mainGlobals (Str.ofString "_law_lot") = some (some (.ref a__law_lot)))
    (l__law_lot : K.lookup a__law_lot = some ⟨oc__law_lot, od__law_lot, .func (PySem.W.fnOf (Str.ofString "_law_lot") (Str.ofString "_law_lot") (defArgs s__law_lot) (defBody s__law_lot) (defScope s__law_lot) .none kV__law_lot dc__law_lot pm__law_lot an__law_lot cd__law_lot ct__law_lot), sl__law_lot⟩)
    (c__law_lot : PySem.W.codeIn K cd__law_lot (Str.ofString "_law_lot") = true) (k__law_lot : PySem.W.keepIn K (.ref a__law_lot) = true)
    (n__law_near : PySem.W.nsIn K mainGlobals (Str.ofString "_law_near") = some (some (.ref a__law_near)))
    (l__law_near : K.lookup a__law_near = some ⟨oc__law_near, od__law_near, .func (PySem.W.fnOf (Str.ofString "_law_near") (Str.ofString "_law_near") (defArgs s__law_near) (defBody s__law_near) (defScope s__law_near) .none kV__law_near dc__law_near pm__law_near an__law_near cd__law_near ct__law_near), sl__law_near⟩)
    (c__law_near : PySem.W.codeIn K cd__law_near (Str.ofString "_law_near") = true) (k__law_near : PySem.W.keepIn K (.ref a__law_near) = true)
    (n__law_lots : PySem.W.nsIn K mainGlobals (Str.ofString "_law_lots") = some (some (.ref a__law_lots)))
    (l__law_lots : K.lookup a__law_lots = some ⟨oc__law_lots, od__law_lots, .func (PySem.W.fnOf (Str.ofString "_law_lots") (Str.ofString "_law_lots") (defArgs s__law_lots) (defBody s__law_lots) (defScope s__law_lots) .none kV__law_lots dc__law_lots pm__law_lots an__law_lots cd__law_lots ct__law_lots), sl__law_lots⟩)
    (c__law_lots : PySem.W.codeIn K cd__law_lots (Str.ofString "_law_lots") = true) (k__law_lots : PySem.W.keepIn K (.ref a__law_lots) = true)
    (n__law_greatest : PySem.W.nsIn K mainGlobals (Str.ofString "_law_greatest") = some (some (.ref a__law_greatest)))
    (l__law_greatest : K.lookup a__law_greatest = some ⟨oc__law_greatest, od__law_greatest, .func (PySem.W.fnOf (Str.ofString "_law_greatest") (Str.ofString "_law_greatest") (defArgs s__law_greatest) (defBody s__law_greatest) (defScope s__law_greatest) .none kV__law_greatest dc__law_greatest pm__law_greatest an__law_greatest cd__law_greatest ct__law_greatest), sl__law_greatest⟩)
    (c__law_greatest : PySem.W.codeIn K cd__law_greatest (Str.ofString "_law_greatest") = true) (k__law_greatest : PySem.W.keepIn K (.ref a__law_greatest) = true)
    (n__law_is_lack : PySem.W.nsIn K mainGlobals (Str.ofString "_law_is_lack") = some (some (.ref a__law_is_lack)))
    (l__law_is_lack : K.lookup a__law_is_lack = some ⟨oc__law_is_lack, od__law_is_lack, .func (PySem.W.fnOf (Str.ofString "_law_is_lack") (Str.ofString "_law_is_lack") (defArgs s__law_is_lack) (defBody s__law_is_lack) (defScope s__law_is_lack) .none kV__law_is_lack dc__law_is_lack pm__law_is_lack an__law_is_lack cd__law_is_lack ct__law_is_lack), sl__law_is_lack⟩)
    (c__law_is_lack : PySem.W.codeIn K cd__law_is_lack (Str.ofString "_law_is_lack") = true) (k__law_is_lack : PySem.W.keepIn K (.ref a__law_is_lack) = true)
    (n__law_one_right : PySem.W.nsIn K mainGlobals (Str.ofString "_law_one_right") = some (some (.ref a__law_one_right)))
    (l__law_one_right : K.lookup a__law_one_right = some ⟨oc__law_one_right, od__law_one_right, .func (PySem.W.fnOf (Str.ofString "_law_one_right") (Str.ofString "_law_one_right") (defArgs s__law_one_right) (defBody s__law_one_right) (defScope s__law_one_right) .none kV__law_one_right dc__law_one_right pm__law_one_right an__law_one_right cd__law_one_right ct__law_one_right), sl__law_one_right⟩)
    (c__law_one_right : PySem.W.codeIn K cd__law_one_right (Str.ofString "_law_one_right") = true) (k__law_one_right : PySem.W.keepIn K (.ref a__law_one_right) = true)
    (n__law_right : PySem.W.nsIn K mainGlobals (Str.ofString "_law_right") = some (some (.ref a__law_right)))
    (l__law_right : K.lookup a__law_right = some ⟨oc__law_right, od__law_right, .func (PySem.W.fnOf (Str.ofString "_law_right") (Str.ofString "_law_right") (defArgs s__law_right) (defBody s__law_right) (defScope s__law_right) .none kV__law_right dc__law_right pm__law_right an__law_right cd__law_right ct__law_right), sl__law_right⟩)
    (c__law_right : PySem.W.codeIn K cd__law_right (Str.ofString "_law_right") = true) (k__law_right : PySem.W.keepIn K (.ref a__law_right) = true)
    (n_law : PySem.W.nsIn K mainGlobals (Str.ofString "law") = some (some (.ref a_law)))
    (l_law : K.lookup a_law = some ⟨oc_law, od_law, .func (PySem.W.fnOf (Str.ofString "law") (Str.ofString "law") (defArgs s_law) (defBody s_law) (defScope s_law) .none kV_law dc_law pm_law an_law cd_law ct_law), sl_law⟩)
    (c_law : PySem.W.codeIn K cd_law (Str.ofString "law") = true) (k_law : PySem.W.keepIn K (.ref a_law) = true)
    (v_MOST_CELLS : PySem.W.nsIn K mainGlobals (Str.ofString "MOST_CELLS") = some (some (.int 40 t_MOST_CELLS)))
    (v_LAST : PySem.W.nsIn K mainGlobals (Str.ofString "LAST") = some (some (.int 7 t_LAST)))
    (z_isinstance : PySem.W.nsIn K mainGlobals (Str.ofString "isinstance") = some none)
    (z_list : PySem.W.nsIn K mainGlobals (Str.ofString "list") = some none)
    (z_tuple : PySem.W.nsIn K mainGlobals (Str.ofString "tuple") = some none)
    (z_int : PySem.W.nsIn K mainGlobals (Str.ofString "int") = some none)
    (z_bool : PySem.W.nsIn K mainGlobals (Str.ofString "bool") = some none)
    (z_str : PySem.W.nsIn K mainGlobals (Str.ofString "str") = some none)
    (z_len : PySem.W.nsIn K mainGlobals (Str.ofString "len") = some none)
    (z_all : PySem.W.nsIn K mainGlobals (Str.ofString "all") = some none)
    (z_any : PySem.W.nsIn K mainGlobals (Str.ofString "any") = some none)
    (z_zip : PySem.W.nsIn K mainGlobals (Str.ofString "zip") = some none)
    (z_set : PySem.W.nsIn K mainGlobals (Str.ofString "set") = some none)
    (z_sorted : PySem.W.nsIn K mainGlobals (Str.ofString "sorted") = some none)
    (z_abs : PySem.W.nsIn K mainGlobals (Str.ofString "abs") = some none)
    (z_max : PySem.W.nsIn K mainGlobals (Str.ofString "max") = some none)
    (z_min : PySem.W.nsIn K mainGlobals (Str.ofString "min") = some none)
    (z_range : PySem.W.nsIn K mainGlobals (Str.ofString "range") = some none)
    (z_repr : PySem.W.nsIn K mainGlobals (Str.ofString "repr") = some none)
    (z_dict : PySem.W.nsIn K mainGlobals (Str.ofString "dict") = some none)
    (z_divmod : PySem.W.nsIn K mainGlobals (Str.ofString "divmod") = some none)
    : Txt K mg where
  b_isinstance := PySem.W.mg_none_of X G z_isinstance
  b_list := PySem.W.mg_none_of X G z_list
  b_tuple := PySem.W.mg_none_of X G z_tuple
  b_int := PySem.W.mg_none_of X G z_int
  b_bool := PySem.W.mg_none_of X G z_bool
  b_str := PySem.W.mg_none_of X G z_str
  b_len := PySem.W.mg_none_of X G z_len
  b_all := PySem.W.mg_none_of X G z_all
  b_any := PySem.W.mg_none_of X G z_any
  b_zip := PySem.W.mg_none_of X G z_zip
  b_set := PySem.W.mg_none_of X G z_set
  b_sorted := PySem.W.mg_none_of X G z_sorted
  b_abs := PySem.W.mg_none_of X G z_abs
  b_max := PySem.W.mg_none_of X G z_max
  b_min := PySem.W.mg_none_of X G z_min
  b_range := PySem.W.mg_none_of X G z_range
  b_repr := PySem.W.mg_none_of X G z_repr
  b_dict := PySem.W.mg_none_of X G z_dict
  b_divmod := PySem.W.mg_none_of X G z_divmod
  c_MOST_CELLS := ⟨_, PySem.W.mg_of X G v_MOST_CELLS⟩
  c_LAST := ⟨_, PySem.W.mg_of X G v_LAST⟩
  f_is_count_to := at_mk X G n_is_count_to l_is_count_to c_is_count_to k_is_count_to
  f_cell_is_right := at_mk X G n_cell_is_right l_cell_is_right c_cell_is_right k_cell_is_right
  f_are_rising := at_mk X G n_are_rising l_are_rising c_are_rising k_are_rising
  f_some_cells := at_mk X G n_some_cells l_some_cells c_some_cells k_some_cells
  f_pinch_of := at_mk X G n_pinch_of l_pinch_of c_pinch_of k_pinch_of
  f_flaw_of := at_mk X G n_flaw_of l_flaw_of c_flaw_of k_flaw_of
  f_floor_is_right := at_mk X G n_floor_is_right l_floor_is_right c_floor_is_right k_floor_is_right
  f_lot_is_right := at_mk X G n_lot_is_right l_lot_is_right c_lot_is_right k_lot_is_right
  f_check_floor := at_mk X G n_check_floor l_check_floor c_check_floor k_check_floor
  f_is_dark := at_mk X G n_is_dark l_is_dark c_is_dark k_is_dark
  f_beside := at_mk X G n_beside l_beside c_beside k_beside
  f_near_in := at_mk X G n_near_in l_near_in c_near_in k_near_in
  f_way_from := at_mk X G n_way_from l_way_from c_way_from k_way_from
  f_laid_along := at_mk X G n_laid_along l_laid_along c_laid_along k_laid_along
  f_most_pairs := at_mk X G n_most_pairs l_most_pairs c_most_pairs k_most_pairs
  f_is_laid := at_mk X G n_is_laid l_is_laid c_is_laid k_is_laid
  f_come_to := at_mk X G n_come_to l_come_to c_come_to k_come_to
  f_check_lot := at_mk X G n_check_lot l_check_lot c_check_lot k_check_lot
  f_can_lay := at_mk X G n_can_lay l_can_lay c_can_lay k_can_lay
  f_neighbours_in := at_mk X G n_neighbours_in l_neighbours_in c_neighbours_in k_neighbours_in
  f_size_in := at_mk X G n_size_in l_size_in c_size_in k_size_in
  f_lot_of_lot := at_mk X G n_lot_of_lot l_lot_of_lot c_lot_of_lot k_lot_of_lot
  f_has_one_colour := at_mk X G n_has_one_colour l_has_one_colour c_has_one_colour k_has_one_colour
  f_lack_by := at_mk X G n_lack_by l_lack_by c_lack_by k_lack_by
  f_check_cells := at_mk X G n_check_cells l_check_cells c_check_cells k_check_cells
  f_neighbours := at_mk X G n_neighbours l_neighbours c_neighbours k_neighbours
  f_is_lack := at_mk X G n_is_lack l_is_lack c_is_lack k_is_lack
  f_lack := at_mk X G n_lack l_lack c_lack k_lack
  f_lack_size := at_mk X G n_lack_size l_lack_size c_lack_size k_lack_size
  f__law_pot := at_mk X G n__law_pot l__law_pot c__law_pot k__law_pot
  f__law_draw := at_mk X G n__law_draw l__law_draw c__law_draw k__law_draw
  f__law_pick := at_mk X G n__law_pick l__law_pick c__law_pick k__law_pick
  f__law_same := at_mk X G n__law_same l__law_same c__law_same k__law_same
  f__law_dark := at_mk X G n__law_dark l__law_dark c__law_dark k__law_dark
  f__law_pinch := at_mk X G n__law_pinch l__law_pinch c__law_pinch k__law_pinch
  f__law_floor := at_mk X G n__law_floor l__law_floor c__law_floor k__law_floor
  f__law_beside := at_mk X G n__law_beside l__law_beside c__law_beside k__law_beside
  f__law_layings := at_mk X G n__law_layings l__law_layings c__law_layings k__law_layings
  f__law_lot := at_mk X G n__law_lot l__law_lot c__law_lot k__law_lot
  f__law_near := at_mk X G n__law_near l__law_near c__law_near k__law_near
  f__law_lots := at_mk X G n__law_lots l__law_lots c__law_lots k__law_lots
  f__law_greatest := at_mk X G n__law_greatest l__law_greatest c__law_greatest k__law_greatest
  f__law_is_lack := at_mk X G n__law_is_lack l__law_is_lack c__law_is_lack k__law_is_lack
  f__law_one_right := at_mk X G n__law_one_right l__law_one_right c__law_one_right k__law_one_right
  f__law_right := at_mk X G n__law_right l__law_right c__law_right k__law_right
  f_law := at_mk X G n_law l_law c_law k_law
end K25
open PySem PySem.W PyProof.Rows in
set_option maxRecDepth 100000 in
set_option maxHeartbeats 0 in
theorem PySem.Challenge.cw_laidbytwos_k25_whole_laid_or_a_lack_holds : PySem.Challenge.rw_laidbytwos_k25_whole_laid_or_a_lack.Holds := by
  w_on; o_law; k_head; (case hw => w_witness2)
  k_fill
  refine DL.walkG (l := PySem.Challenge.rw_laidbytwos_k25_whole_laid_or_a_lack) (n := 63) (k := 12) (st := K25.s_law) (x := "law") (y := PySem.Str.ofString "script") rfl (by decide) rfl rfl DL.rm_caller (fun w h Y => PySem.W.kIn_of Y) ?F
  case F =>
    intro w mg h KX G base KB GB
    refine K25.G_law ?T
    refine' K25.txt_mk KX G ?n_is_count_to ?l_is_count_to ?c_is_count_to ?k_is_count_to ?n_cell_is_right ?l_cell_is_right ?c_cell_is_right ?k_cell_is_right ?n_are_rising ?l_are_rising ?c_are_rising ?k_are_rising ?n_some_cells ?l_some_cells ?c_some_cells ?k_some_cells ?n_pinch_of ?l_pinch_of ?c_pinch_of ?k_pinch_of ?n_flaw_of ?l_flaw_of ?c_flaw_of ?k_flaw_of ?n_floor_is_right ?l_floor_is_right ?c_floor_is_right ?k_floor_is_right ?n_lot_is_right ?l_lot_is_right ?c_lot_is_right ?k_lot_is_right ?n_check_floor ?l_check_floor ?c_check_floor ?k_check_floor ?n_is_dark ?l_is_dark ?c_is_dark ?k_is_dark ?n_beside ?l_beside ?c_beside ?k_beside ?n_near_in ?l_near_in ?c_near_in ?k_near_in ?n_way_from ?l_way_from ?c_way_from ?k_way_from ?n_laid_along ?l_laid_along ?c_laid_along ?k_laid_along ?n_most_pairs ?l_most_pairs ?c_most_pairs ?k_most_pairs ?n_is_laid ?l_is_laid ?c_is_laid ?k_is_laid ?n_come_to ?l_come_to ?c_come_to ?k_come_to ?n_check_lot ?l_check_lot ?c_check_lot ?k_check_lot ?n_can_lay ?l_can_lay ?c_can_lay ?k_can_lay ?n_neighbours_in ?l_neighbours_in ?c_neighbours_in ?k_neighbours_in ?n_size_in ?l_size_in ?c_size_in ?k_size_in ?n_lot_of_lot ?l_lot_of_lot ?c_lot_of_lot ?k_lot_of_lot ?n_has_one_colour ?l_has_one_colour ?c_has_one_colour ?k_has_one_colour ?n_lack_by ?l_lack_by ?c_lack_by ?k_lack_by ?n_check_cells ?l_check_cells ?c_check_cells ?k_check_cells ?n_neighbours ?l_neighbours ?c_neighbours ?k_neighbours ?n_is_lack ?l_is_lack ?c_is_lack ?k_is_lack ?n_lack ?l_lack ?c_lack ?k_lack ?n_lack_size ?l_lack_size ?c_lack_size ?k_lack_size ?n__law_pot ?l__law_pot ?c__law_pot ?k__law_pot ?n__law_draw ?l__law_draw ?c__law_draw ?k__law_draw ?n__law_pick ?l__law_pick ?c__law_pick ?k__law_pick ?n__law_same ?l__law_same ?c__law_same ?k__law_same ?n__law_dark ?l__law_dark ?c__law_dark ?k__law_dark ?n__law_pinch ?l__law_pinch ?c__law_pinch ?k__law_pinch ?n__law_floor ?l__law_floor ?c__law_floor ?k__law_floor ?n__law_beside ?l__law_beside ?c__law_beside ?k__law_beside ?n__law_layings ?l__law_layings ?c__law_layings ?k__law_layings ?n__law_lot ?l__law_lot ?c__law_lot ?k__law_lot ?n__law_near ?l__law_near ?c__law_near ?k__law_near ?n__law_lots ?l__law_lots ?c__law_lots ?k__law_lots ?n__law_greatest ?l__law_greatest ?c__law_greatest ?k__law_greatest ?n__law_is_lack ?l__law_is_lack ?c__law_is_lack ?k__law_is_lack ?n__law_one_right ?l__law_one_right ?c__law_one_right ?k__law_one_right ?n__law_right ?l__law_right ?c__law_right ?k__law_right ?n_law ?l_law ?c_law ?k_law ?v_MOST_CELLS ?v_LAST ?z_isinstance ?z_list ?z_tuple ?z_int ?z_bool ?z_str ?z_len ?z_all ?z_any ?z_zip ?z_set ?z_sorted ?z_abs ?z_max ?z_min ?z_range ?z_repr ?z_dict ?z_divmod
    (case n_is_count_to => k_is)
    (case l_is_count_to => k_is)
    (case c_is_count_to => k_is)
    (case k_is_count_to => k_is)
    (case n_cell_is_right => k_is)
    (case l_cell_is_right => k_is)
    (case c_cell_is_right => k_is)
    (case k_cell_is_right => k_is)
    (case n_are_rising => k_is)
    (case l_are_rising => k_is)
    (case c_are_rising => k_is)
    (case k_are_rising => k_is)
    (case n_some_cells => k_is)
    (case l_some_cells => k_is)
    (case c_some_cells => k_is)
    (case k_some_cells => k_is)
    (case n_pinch_of => k_is)
    (case l_pinch_of => k_is)
    (case c_pinch_of => k_is)
    (case k_pinch_of => k_is)
    (case n_flaw_of => k_is)
    (case l_flaw_of => k_is)
    (case c_flaw_of => k_is)
    (case k_flaw_of => k_is)
    (case n_floor_is_right => k_is)
    (case l_floor_is_right => k_is)
    (case c_floor_is_right => k_is)
    (case k_floor_is_right => k_is)
    (case n_lot_is_right => k_is)
    (case l_lot_is_right => k_is)
    (case c_lot_is_right => k_is)
    (case k_lot_is_right => k_is)
    (case n_check_floor => k_is)
    (case l_check_floor => k_is)
    (case c_check_floor => k_is)
    (case k_check_floor => k_is)
    (case n_is_dark => k_is)
    (case l_is_dark => k_is)
    (case c_is_dark => k_is)
    (case k_is_dark => k_is)
    (case n_beside => k_is)
    (case l_beside => k_is)
    (case c_beside => k_is)
    (case k_beside => k_is)
    (case n_near_in => k_is)
    (case l_near_in => k_is)
    (case c_near_in => k_is)
    (case k_near_in => k_is)
    (case n_way_from => k_is)
    (case l_way_from => k_is)
    (case c_way_from => k_is)
    (case k_way_from => k_is)
    (case n_laid_along => k_is)
    (case l_laid_along => k_is)
    (case c_laid_along => k_is)
    (case k_laid_along => k_is)
    (case n_most_pairs => k_is)
    (case l_most_pairs => k_is)
    (case c_most_pairs => k_is)
    (case k_most_pairs => k_is)
    (case n_is_laid => k_is)
    (case l_is_laid => k_is)
    (case c_is_laid => k_is)
    (case k_is_laid => k_is)
    (case n_come_to => k_is)
    (case l_come_to => k_is)
    (case c_come_to => k_is)
    (case k_come_to => k_is)
    (case n_check_lot => k_is)
    (case l_check_lot => k_is)
    (case c_check_lot => k_is)
    (case k_check_lot => k_is)
    (case n_can_lay => k_is)
    (case l_can_lay => k_is)
    (case c_can_lay => k_is)
    (case k_can_lay => k_is)
    (case n_neighbours_in => k_is)
    (case l_neighbours_in => k_is)
    (case c_neighbours_in => k_is)
    (case k_neighbours_in => k_is)
    (case n_size_in => k_is)
    (case l_size_in => k_is)
    (case c_size_in => k_is)
    (case k_size_in => k_is)
    (case n_lot_of_lot => k_is)
    (case l_lot_of_lot => k_is)
    (case c_lot_of_lot => k_is)
    (case k_lot_of_lot => k_is)
    (case n_has_one_colour => k_is)
    (case l_has_one_colour => k_is)
    (case c_has_one_colour => k_is)
    (case k_has_one_colour => k_is)
    (case n_lack_by => k_is)
    (case l_lack_by => k_is)
    (case c_lack_by => k_is)
    (case k_lack_by => k_is)
    (case n_check_cells => k_is)
    (case l_check_cells => k_is)
    (case c_check_cells => k_is)
    (case k_check_cells => k_is)
    (case n_neighbours => k_is)
    (case l_neighbours => k_is)
    (case c_neighbours => k_is)
    (case k_neighbours => k_is)
    (case n_is_lack => k_is)
    (case l_is_lack => k_is)
    (case c_is_lack => k_is)
    (case k_is_lack => k_is)
    (case n_lack => k_is)
    (case l_lack => k_is)
    (case c_lack => k_is)
    (case k_lack => k_is)
    (case n_lack_size => k_is)
    (case l_lack_size => k_is)
    (case c_lack_size => k_is)
    (case k_lack_size => k_is)
    (case n__law_pot => k_is)
    (case l__law_pot => k_is)
    (case c__law_pot => k_is)
    (case k__law_pot => k_is)
    (case n__law_draw => k_is)
    (case l__law_draw => k_is)
    (case c__law_draw => k_is)
    (case k__law_draw => k_is)
    (case n__law_pick => k_is)
    (case l__law_pick => k_is)
    (case c__law_pick => k_is)
    (case k__law_pick => k_is)
    (case n__law_same => k_is)
    (case l__law_same => k_is)
    (case c__law_same => k_is)
    (case k__law_same => k_is)
    (case n__law_dark => k_is)
    (case l__law_dark => k_is)
    (case c__law_dark => k_is)
    (case k__law_dark => k_is)
    (case n__law_pinch => k_is)
    (case l__law_pinch => k_is)
    (case c__law_pinch => k_is)
    (case k__law_pinch => k_is)
    (case n__law_floor => k_is)
    (case l__law_floor => k_is)
    (case c__law_floor => k_is)
    (case k__law_floor => k_is)
    (case n__law_beside => k_is)
    (case l__law_beside => k_is)
    (case c__law_beside => k_is)
    (case k__law_beside => k_is)
    (case n__law_layings => k_is)
    (case l__law_layings => k_is)
    (case c__law_layings => k_is)
    (case k__law_layings => k_is)
    (case n__law_lot => k_is)
    (case l__law_lot => k_is)
    (case c__law_lot => k_is)
    (case k__law_lot => k_is)
    (case n__law_near => k_is)
    (case l__law_near => k_is)
    (case c__law_near => k_is)
    (case k__law_near => k_is)
    (case n__law_lots => k_is)
    (case l__law_lots => k_is)
    (case c__law_lots => k_is)
    (case k__law_lots => k_is)
    (case n__law_greatest => k_is)
    (case l__law_greatest => k_is)
    (case c__law_greatest => k_is)
    (case k__law_greatest => k_is)
    (case n__law_is_lack => k_is)
    (case l__law_is_lack => k_is)
    (case c__law_is_lack => k_is)
    (case k__law_is_lack => k_is)
    (case n__law_one_right => k_is)
    (case l__law_one_right => k_is)
    (case c__law_one_right => k_is)
    (case k__law_one_right => k_is)
    (case n__law_right => k_is)
    (case l__law_right => k_is)
    (case c__law_right => k_is)
    (case k__law_right => k_is)
    (case n_law => k_is)
    (case l_law => k_is)
    (case c_law => k_is)
    (case k_law => k_is)
    (case v_MOST_CELLS => k_is)
    (case v_LAST => k_is)
    (case z_isinstance => k_is)
    (case z_list => k_is)
    (case z_tuple => k_is)
    (case z_int => k_is)
    (case z_bool => k_is)
    (case z_str => k_is)
    (case z_len => k_is)
    (case z_all => k_is)
    (case z_any => k_is)
    (case z_zip => k_is)
    (case z_set => k_is)
    (case z_sorted => k_is)
    (case z_abs => k_is)
    (case z_max => k_is)
    (case z_min => k_is)
    (case z_range => k_is)
    (case z_repr => k_is)
    (case z_dict => k_is)
    (case z_divmod => k_is)
#print axioms PySem.Challenge.cw_laidbytwos_k25_whole_laid_or_a_lack_holds


