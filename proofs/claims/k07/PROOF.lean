import PyProof.Rows.All
import Wide.All
import OpenK.AllK
import Wide.FinOn
import HandS.Conv
import HandS.Dict
import HandS.DictTup
import HandS.More
import KE.KDictSum
import KE.SortData
import HandS.ForMost
import HandS.ForExc
import HandS.IsInst
import HandS.Gcd
import HandS.Zip
import HandS.Rev
import HandS.RevRange
import HandS.TupAny
import HandS.TupMul
import HandS.Style
import HandS.Flow
import HandS.Wide
import HandS.Deep
import HandS.Lambda
import HandS.ExcIs
import HandS.EndTab
import KE.KLam
import KE.KTupSum
import KE.DataMinMax
import KE.GoesEnum
import KE.GoesMore
import HandS.CallRecv
import HandS.WideBits
import KE.KStateDown
import HandS.Head0
import HandS.Head1
import HandS.Head2
import HandS.HeadHook1
import HandS.HeadHook2
import HandS.HeadHook3
import HandS.HeadHook4
import HandS.Head3
import PySem.Challenge.RW_homesteps_k07_whole_worths_and_slopes
set_option Elab.async false
set_option linter.all false
set_option maxRecDepth 100000
/-! A dict of our own kind: its keys are tuples of ints, wherever these lie. -/
namespace HS
open PySem L2 PyProof.Rows

/-- a key, where its tuple lies, the value -/
abbrev Ent := List Int × Addr × V
def hT (ks : List Int) : Int := reduceHash (Builtin.Tuple.tupleHashOf (ks.map hashInt))
def entH (x : List Int × Addr × Value) : DictEntry := ⟨hT x.1, .ref x.2.1, x.2.2⟩
abbrev EV : List Ent → List (List Int × Addr × Value) → Prop := Paired fun p q => p.1 = q.1 ∧ p.2.1 = q.2.1 ∧ RelV p.2.2 q.2.2
/-- the dict object -/
def DTo (a : Addr) (ys : List Ent) (h : Heap) : Prop :=
  ys.length ≤ sizeLine ∧ (a == sysModules) = false ∧ ∃ xs, EV ys xs ∧ ∃ o es ep, h.get? a = some o ∧ o.ExactDict ∧ o.data = .dict es ep ∧ es.toList = xs.map entH ∧ (xs.map (·.1)).Nodup
theorem DTo.stay {a : Addr} {ys : List Ent} (h1 h2 : Heap) (x : DTo a ys h1) (k : ∀ o, h1.get? a = some o → h2.get? a = some o) : DTo a ys h2 := by
  obtain ⟨z, y, xs, r, o, es, ep, e, c⟩ := x
  exact ⟨z, y, xs, r, o, es, ep, k _ e, c⟩
theorem DTo.there {a : Addr} {ys : List Ent} {h : Heap} (x : DTo a ys h) : ∃ o, h.get? a = some o := by
  obtain ⟨z, y, xs, r, o, es, ep, e, c⟩ := x
  exact ⟨o, e⟩
theorem DTo.ok {P : Program} {w : World} {H : Hp} {a : Addr} {ys : List Ent} {h : Heap} (x : DTo a ys h) : ObjOk P w H h a (.ext (DTo a ys)) := ⟨x, x.there, DTo.stay⟩

theorem ent_eq {P : Program} {w : World} : entryOfKey (tupleKind (PySem.intKind P w)) = entH := rfl
theorem int_items {P : Program} {w : World} : ∀ {ks : List Int} {us : List Value}, Vals (ks.map V.int) us → ItemsAre (PySem.intKind P w) ks us
  | [], _, r => by rw [List.map_nil] at r; cases r; exact .nil
  | k :: ks, _, r => by
    rw [List.map_cons] at r
    cases r with
    | cons h t =>
      obtain ⟨t', rfl⟩ := h
      exact .cons (by simp [PySem.intKind, Value.isInt]) (int_items t)
section
variable {X : Cx} {pins : List (Addr × Obj)} {σ : L2.St} {H : Hp} {s : Shared} {a b : Addr} {k : List Int} {ys : List Ent} {v d : V} {u r : Value} {A : Around} {E : Value → Shared → Prop}
theorem keyI (I : Inv X pins σ H s) (e : SqT X.K H b (k.map V.int)) : (tupleKind (PySem.intKind X.prog X.w)).is s.heap k b := by
  obtain ⟨its, r, ⟨o, h1, h2, n, h3⟩, _⟩ := I.tuple e
  exact ⟨o, its.toArray, n, h1, h2, h3, by simpa using int_items r⟩
/-- the keys lie where they are said to lie -/
def KeysT (K : PySem.W.Frag) (H : Hp) (ys : List Ent) : Prop := ∀ y ∈ ys, SqT K H y.2.1 (y.1.map V.int)
theorem EV.mem : ∀ {ys : List Ent} {xs : List (List Int × Addr × Value)}, EV ys xs → ∀ x ∈ xs, ∃ y ∈ ys, y.1 = x.1 ∧ y.2.1 = x.2.1
  | _, _, .nil, x, m => nomatch m
  | y :: ys, x0 :: xs, .cons h t, x, m => by
    rcases List.mem_cons.mp m with rfl | m
    · exact ⟨y, List.mem_cons_self, h.1, h.2.1⟩
    · obtain ⟨z, hz, e⟩ := EV.mem t x m
      exact ⟨z, List.mem_cons_of_mem _ hz, e⟩
theorem dto_of (I : Inv X pins σ H s) (e : H a = some (.ext (DTo a ys))) (hk : KeysT X.K H ys) : ys.length ≤ sizeLine ∧ (a == sysModules) = false ∧ ∃ xs, EV ys xs ∧ s.heap.DictOfH (tupleKind (PySem.intKind X.prog X.w)) a xs := by
  obtain ⟨⟨z, y, xs, r, o, es, ep, h1, h2, h3, h4, h5⟩, _, _⟩ := (show ObjOk X.prog X.w H s.heap a (.ext (DTo a ys)) from I.hok a _ e)
  refine ⟨z, y, xs, r, o, es, ep, h1, h2, h3, by rw [ent_eq]; exact h4, fun x hx => ?_, h5⟩
  obtain ⟨p, hp, e1, e2⟩ := EV.mem r x hx
  rw [← e1, ← e2]; exact keyI I (hk p hp)
/-- the value at a key -/
def findV (ys : List Ent) (k : List Int) : Option V := (ys.find? fun y => decide (y.1 = k)).map (·.2.2)
theorem EV.val {xs : List (List Int × Addr × Value)} (r : EV ys xs) (k : List Int) : RelO (findV ys k) ((atKey xs k).map (·.2)) := by
  induction r with
  | nil => exact True.intro
  | @cons p q ps qs h t ih =>
    obtain ⟨h1, _, h2⟩ := h
    by_cases e : p.1 = k
    · have e' : q.1 = k := h1.symm.trans e
      have b : atKey (q :: qs) k = some q.2 := by simp [atKey, List.find?_cons, e']
      have c : findV (p :: ps) k = some p.2.2 := by simp [findV, List.find?_cons, e]
      rw [b, c]; exact h2
    · have e' : ¬ q.1 = k := fun z => e (h1.trans z)
      have b : atKey (q :: qs) k = atKey qs k := by simp [atKey, List.find?_cons, e']
      have c : findV (p :: ps) k = findV ps k := by simp [findV, List.find?_cons, e]
      rw [b, c]; exact ih
def putV (ys : List Ent) (k : List Int) (b : Addr) (v : V) : List Ent := if (findV ys k).isSome then ys.map (fun y => if y.1 = k then (y.1, y.2.1, v) else y) else ys ++ [(k, b, v)]
theorem EV.repl {xs : List (List Int × Addr × Value)} (r : EV ys xs) (k : List Int) (rv : RelV v u) : EV (ys.map (fun y => if y.1 = k then (y.1, y.2.1, v) else y)) (xs.map (putAt k u)) := by
  induction r with
  | nil => exact .nil
  | @cons p q ps qs h t ih =>
    rw [List.map_cons, List.map_cons]
    refine .cons ?_ ih
    obtain ⟨h1, h2, h3⟩ := h
    unfold putAt
    by_cases e : p.1 = k
    · rw [if_pos e, if_pos (h1.symm.trans e)]; exact ⟨h1, h2, rv⟩
    · rw [if_neg e, if_neg (fun z => e (h1.trans z))]; exact ⟨h1, h2, h3⟩
theorem EV.put {xs : List (List Int × Addr × Value)} (r : EV ys xs) (k : List Int) (rv : RelV v u) : EV (putV ys k b v) (storedH xs k b u) := by
  have e : (findV ys k).isSome = (atKey xs k).isSome := by
    rw [(r.val k).isSome_eq, Option.isSome_map]
  unfold putV storedH
  rw [e]
  by_cases q : (atKey xs k).isSome = true
  · rw [if_pos q, if_pos q]; exact r.repl k rv
  · rw [if_neg q, if_neg q]; exact Paired.snoc r ⟨rfl, rfl, rv⟩
theorem length_putV (ys : List Ent) (k : List Int) (b : Addr) (v : V) : (putV ys k b v).length ≤ ys.length + 1 := by
  unfold putV
  split
  · rw [List.length_map]; omega
  · rw [List.length_append, List.length_singleton]; omega
theorem dto_at (I : Inv X pins σ H s) (e : H a = some (.ext (DTo a ys))) : s.TypeIs (.ref a) "dict" ∧ (∀ b, Value.ref a = .ref b → ∃ ob, s.heap.get? b = some ob ∧ ob.dict = none) := by
  obtain ⟨⟨z, y, xs, r, o, es, ep, h1, h2, h3, h4, h5⟩, _, _⟩ := (show ObjOk X.prog X.w H s.heap a (.ext (DTo a ys)) from I.hok a _ e)
  refine ⟨⟨o, h1, h2.1⟩, fun b q => ?_⟩
  cases q
  exact ⟨o, h1, h2.2.1⟩

theorem x_getItem {Q : Value → Shared → Prop} (hu : A.units + 1 < cLine) (I : Inv X pins σ H s) (e : H a = some (.ext (DTo a ys))) (hk : KeysT X.K H ys) (eb : SqT X.K H b (k.map V.int)) (l : findV ys k = some v)
    (h : ∀ w' s', Inv X pins σ H s' → RelV v w' → Q w' s') : wpAny (model X.prog X.w) A (getItem (.ref a) (.ref b)) Q E s := by
  obtain ⟨z, hd, xs, rel, dd⟩ := dto_of I e hk
  obtain ⟨w', hw, rw'⟩ := RelO.some_of (v := v) (o := (atKey xs k).map (·.2)) (by rw [← l]; exact rel.val k)
  obtain ⟨p, hp, hp2⟩ := Option.map_eq_some_iff.mp hw
  refine wpAny_getItem_heap (tupleKind_room_in1 hu) (keyI I eb) dd hp ?_
  rw [hp2]
  exact h w' _ (I.tok _) rw'
theorem x_get2 {Q : Value → Shared → Prop} (hu : A.units + 1 < cLine) (I : Inv X pins σ H s) (e : H a = some (.ext (DTo a ys))) (hk : KeysT X.K H ys) (eb : SqT X.K H b (k.map V.int)) (rd : RelV d r)
    (h : ∀ w' s', Inv X pins σ H s' → RelV ((findV ys k).getD d) w' → Q w' s') : wpAny (model X.prog X.w) A (call (.builtin "dict.get") [.ref a, .ref b, r]) Q E s := by
  obtain ⟨z, hd, xs, rel, dd⟩ := dto_of I e hk
  exact call_meetsIn PySem.F.slot_dict_get dd.typeIs PySem.F.entry_dict_get (PySem.F.args_dict_get_3 _ _ _) (meetsH_dict_get_default (tupleKind (PySem.intKind X.prog X.w)) a b hd r)
    ⟨tupleKind_room_in1 hu, k, xs, keyI I eb, dd, h _ _ (I.tok _) ((rel.val k).getD rd)⟩
theorem x_setItem {Q : Unit → Shared → Prop} (hu : A.units + 1 < cLine) (I : Inv X pins σ H s) (e : H a = some (.ext (DTo a ys))) (hk : KeysT X.K H ys) (eb : SqT X.K H b (k.map V.int)) (hl : ys.length < sizeLine) (rv : RelV v r)
    (h : ∀ s', Inv X pins σ (upd H a (.ext (DTo a (putV ys k b v)))) s' → Q () s') : wpAny (model X.prog X.w) A (setItem (.ref a) (.ref b) r) Q E s := by
  obtain ⟨z, hd, xs, rel, dd⟩ := dto_of I e hk
  have hz : xs.length ≤ sizeLine := by rw [← Paired.length rel]; exact z
  have hl : (putV ys k b v).length ≤ sizeLine := by have := length_putV ys k b v; omega
  refine wpAny_setItem_heap (hsz := hz) (tupleKind_room_in1 hu) (keyI I eb) dd fun h' dd' hs => h _ ?_
  obtain ⟨q, es, ep, hq, h2, h3, h4, _, h5⟩ := dd'
  refine d_write I (by rw [e]; exact True.intro) hs ⟨q, hq⟩ (DTo.ok ⟨hl, hd, _, rel.put k rv, q, es, ep, hq, h2, h3, ?_, h5⟩)
  rw [h4, ent_eq]
end
/-- {} -/
def tXNew : TE := fun _ H Q => ∀ p, H p = none → Q (.ref p) (upd H p (.ext (DTo p [])))
def tXGet2 (K : PySem.W.Frag) (td ty tx : TE) : TE := fun σ H Q => td σ H fun x H1 => ∃ a ys1, x = .ref a ∧ H1 a = some (.ext (DTo a ys1)) ∧ ty σ H1 fun y H2 => tx σ H2 fun z H3 =>
  ∃ ys b k, H3 a = some (.ext (DTo a ys)) ∧ KeysT K H3 ys ∧ y = .ref b ∧ SqT K H3 b (k.map V.int) ∧ Q ((findV ys k).getD z) H3
def tXGet (K : PySem.W.Frag) (td ty : TE) : TE := fun σ H Q => td σ H fun x H1 => ty σ H1 fun y H2 => ∃ a ys b k v, x = .ref a ∧ H2 a = some (.ext (DTo a ys)) ∧ KeysT K H2 ys ∧ y = .ref b ∧ SqT K H2 b (k.map V.int) ∧ findV ys k = some v ∧ Q v H2
def sXPut (K : PySem.W.Frag) (td ty tv : TE) : TS := fun D σ H => tv σ H fun v H1 => td σ H1 fun x H2 => ty σ H2 fun y H3 =>
  ∃ a ys b k, x = .ref a ∧ H3 a = some (.ext (DTo a ys)) ∧ KeysT K H3 ys ∧ y = .ref b ∧ SqT K H3 b (k.map V.int) ∧ ys.length < sizeLine ∧ D.nx σ (upd H3 a (.ext (DTo a (putV ys k b v))))
section
variable {X : Cx} {o i e f value : Expr} {pos pos' apos cpos : Pos} {td ty tx tv : TE}
theorem pe_xnew : PE X (.Dict [] [] pos) tXNew := ⟨fun pins s σ H Q I h =>
  wpAny_Dict_empty ⟨.ref s.heap.objs.size, _, I.laid (a := s.heap.objs.size) (o := .ext (DTo s.heap.objs.size [])) (t' := s.toks) (fun _ _ q => Heap.get?_push_of_some _ q) (Nat.le_refl _)
    (DTo.ok ⟨Nat.zero_le _, beq_eq_false_iff_ne.mpr (Ne.symm (Nat.ne_of_lt I.big)), [], .nil, _, #[], 0, Heap.get?_push_size _ rfl, ⟨rfl, rfl, rfl⟩, rfl, rfl, List.nodup_nil⟩), rfl, h _ (I.hok.fresh (Nat.le_refl _))⟩⟩
theorem pe_xget (hu : X.A.units + 1 < cLine) (ho : PE X o td) (hi : PE X i ty) (hs : NoSl i) : PE X (.Subscript o i pos) (tXGet X.K td ty) := by
  refine ⟨fun pins s σ H Q I h => ?_⟩
  refine subD_of PySem.F.slot_dict_getitem.lookup hs (thn (ho.run pins s σ H _ I h) fun u s1 ⟨x, H1, I1, rx, q1⟩ => thn (hi.run pins s1 σ H1 _ I1 q1) fun iv s2 ⟨y, H2, I2, ry, a, ys, b, k, v, ex, g, hk, ey, eb, l, q2⟩ => ?_)
  subst ex ey
  obtain rfl : u = Value.ref a := rx
  obtain rfl : iv = Value.ref b := ry
  exact ⟨(dto_at I2 g).1, x_getItem hu I2 g hk eb l fun w' s3 I3 rw' => ⟨v, H2, I3, rw', q2⟩⟩
theorem ps_xput (hu : X.A.units + 1 < cLine) (ho : PE X o td) (hi : PE X i ty) (hv : PE X value tv) (hs : swapsWith value (some (.Subscript o i pos')) pos.line X.env = pure false) :
    PS X (.Assign [.Subscript o i pos'] value pos) (sXPut X.K td ty tv) := by
  refine ⟨fun pins s σ H D I h => ?_⟩
  refine wpAny_Assign_Subscript (thn (hv.run pins s σ H _ I h) fun r s1 ⟨v, H1, I1, rv, q1⟩ => thn (ho.run pins s1 σ H1 _ I1 q1) fun u s2 ⟨x, H2, I2, rx, q2⟩ => thn (hi.run pins s2 σ H2 _ I2 q2) fun iv s3 ⟨y, H3, I3, ry, a, ys, b, k, ex, g, hk, ey, eb, hl, q3⟩ => ?_) hs
  subst ex ey
  obtain rfl : u = Value.ref a := rx
  obtain rfl : iv = Value.ref b := ry
  exact x_setItem hu I3 g hk eb hl rv fun s4 I4 => ⟨σ, _, I4, q3⟩
theorem pe_xget2 (hu : X.A.units + 1 < cLine) (ho : PE X o td) (he : PE X e ty) (hf : PE X f tx) (m : M2 X o "get" apos e f cpos) : PE X (.Call (.Attribute o "get" apos) [e, f] [] cpos) (tXGet2 X.K td ty tx) := by
  refine ⟨fun pins s σ H Q I h => ?_⟩
  refine wpAny_Call_method m.base m.few m.line PySem.F.plainAttrs_dict PySem.F.slot_dict_get PySem.F.type_dict_get (thn (ho.run pins s σ H _ I h) fun u s1 ⟨x, H1, I1, rx, a, ys1, ex, d, q1⟩ => ?_)
  subst ex
  obtain rfl : u = Value.ref a := rx
  obtain ⟨t1, t2⟩ := dto_at I1 d
  refine ⟨t1, t2, ?_⟩
  rw [m.trees]
  refine Calls.callWith_builtin rfl (Calls.evalArgs_plain (Calls.spliced_cons (thn (he.run pins s1 σ H1 _ I1 q1) fun iv s2 ⟨y, H2, I2, ry, q2⟩ =>
    Calls.spliced_cons (thn (hf.run pins s2 σ H2 _ I2 q2) fun fv s3 ⟨z, H3, I3, rz, ys, b, k, g, hk, ey, eb, q3⟩ => Calls.spliced_nil ?_))))
  subst ey
  obtain rfl : iv = Value.ref b := ry
  exact x_get2 hu I3 g hk eb rz fun w' s4 I4 rw' => ⟨_, H3, I4, rw', q3⟩
end

/-! ### sorted -/
theorem each_refs : ∀ {vs : List Value} {bs : List Ent}, PySem.W.EachIs (fun v b => v = .ref b.2.1) vs bs → vs = bs.map fun b => Value.ref b.2.1
  | _, _, .nil => rfl
  | _, _, .cons h t => by rw [h, each_refs t]; rfl
theorem refs_each : ∀ bs : List Ent, PySem.W.EachIs (fun v b => v = .ref b.2.1) (bs.map fun b => Value.ref b.2.1) bs
  | [] => .nil
  | _ :: r => .cons rfl (refs_each r)
theorem ints_reads {h : Heap} : ∀ {ks : List Int} {us : List Value}, Vals (ks.map V.int) us → ReadsAll h us (ks.map PyData.int) []
  | [], _, r => by rw [List.map_nil] at r; cases r; exact .nil
  | k :: ks, _, r => by
    rw [List.map_cons] at r
    cases r with
    | cons h t =>
      obtain ⟨t', rfl⟩ := h
      exact .cons (as := []) (.int k t') (ints_reads t)
def encT (y : Ent) : PyData := .tuple (y.1.map .int)
theorem key_reads {X : Cx} {pins : List (Addr × Obj)} {σ : L2.St} {H : Hp} {s : Shared} {b : Addr} {k : List Int} (I : Inv X pins σ H s) (e : SqT X.K H b (k.map V.int)) : Reads s.heap (.ref b) (.tuple (k.map .int)) [] := by
  obtain ⟨its, r, ⟨o, h1, h2, n, h3⟩, _⟩ := I.tuple e
  exact .tuple h1 h2 h3 (ints_reads r)
theorem encT_alike (bs : List Ent) : PySem.W.AllAlike (bs.map encT) := PySem.W.AllAlike.of fun _ _ => by
  unfold encT
  rw [PySem.W.alike]
  exact PySem.W.alike_ints _ _
theorem encT_depth (y : Ent) : (encT y).depth ≤ 1 := by
  unfold encT
  rw [PyData.depth, PySem.W.depth_ints]
  try omega
theorem vals_ent : ∀ bs : List Ent, Vals (bs.map fun b => V.ref b.2.1) (bs.map fun b => Value.ref b.2.1)
  | [] => .nil
  | _ :: r => .cons rfl (vals_ent r)
theorem each_key {X : Cx} {pins : List (Addr × Obj)} {σ : L2.St} {H : Hp} {s : Shared} (I : Inv X pins σ H s) (a : Addr) : ∀ ys : List Ent, KeysT X.K H ys →
    PySem.W.EachIs (fun v b => ∃ as, Reads s.heap v (encT b) as ∧ a ∉ as) (ys.map fun y => Value.ref y.2.1) ys
  | [], _ => .nil
  | y :: ys, hk => .cons ⟨[], key_reads I (hk y List.mem_cons_self), by simp⟩ (each_key I a ys fun x hx => hk x (List.mem_cons_of_mem _ hx))
section
variable {X : Cx}
/-- sorted(d) -/
theorem call_sortedX (hcalm : X.calm = true) (hu : X.A.units + 65 < cLine) : CallR X (.builtin "sorted") (fun xs H Q => ∃ (a : Addr) (ys : List Ent), xs = [.ref a] ∧ H a = some (.ext (DTo a ys)) ∧ KeysT X.K H ys ∧ (∀ y ∈ ys, y.1 ≠ []) ∧
    ∀ p, H p = none → Q (.ref p) (upd H p (.lst ((ys.mergeSort (PySem.W.dataLe false encT)).map fun y => V.ref y.2.1)))) := by
  intro pins s σ H xs us Q I r q
  obtain ⟨a, ys, ex, hd, hk, hne, q⟩ := q
  subst ex
  obtain ⟨u, eu, rx⟩ := vals1 r
  subst eu
  cases rx
  obtain ⟨z, lo, xs, rel, o, es, ep, ho, hx, hdt, he, hall, hn⟩ := dto_of I hd hk
  have l1 : es.size = xs.length := size_of_entries he
  have l2 : ys.length = xs.length := Paired.length rel
  have eks : (ys.map fun y => Value.ref y.2.1) = xs.map fun x => Value.ref x.2.1 := by
    clear hd hk hne he hall hn l1 l2 z q
    induction rel with
    | nil => rfl
    | cons h t ih => rw [List.map_cons, List.map_cons, ih, h.2.1]
  refine Calls.call_function_entry PyProof.Rows.kind_sorted PyProof.Rows.plain_sorted PyProof.Rows.entry_sorted (PyProof.Rows.args_sorted1 _) ?_
  unfold Builtin.«sorted»
  refine wpAny_bind (m := checkCount "sorted" 1 1 _) (wpAny_pure ?_)
  refine wpAny_bind (PySem.W.kdu_collect (A := X.A.in1) (kdl_raw lo hx hdt) (I.ok.hd hcalm) ho (by omega) fun h' tk acc kp it => ?_)
  have ea : acc.toList = ys.map fun y => Value.ref y.2.1 := by
    rw [eks]
    have hl : acc.toList.length = xs.length := by rw [Array.length_toList, it.1]; exact l1
    apply List.ext_getElem?
    intro j
    rw [List.getElem?_map]
    cases hj : acc.toList[j]? with
    | none =>
      have h1 := List.getElem?_eq_none_iff.mp hj
      rw [List.getElem?_eq_none (by omega)]
      all_goals rfl
    | some v =>
      obtain ⟨en, hen, hv⟩ := it.2 j v (by rw [← Array.getElem?_toList]; exact hj)
      have qe := entry_at he j
      rw [hen] at qe
      cases hb : xs[j]? with
      | none =>
        rw [hb] at qe
        exact nomatch (show some en = none from qe)
      | some b =>
        rw [hb] at qe
        have e2 : en = entryOfKey (tupleKind (PySem.intKind X.prog X.w)) b := Option.some.inj qe
        rw [hv, e2]
        all_goals rfl
  have I1 : Inv X pins σ H { s with heap := h', toks := tk } := I.kept kp
  have hal : acc.toList.length = ys.length := by rw [ea, List.length_map]
  refine wpAny_bind (wpAny_newList ?_ (by rw [hal]; exact z))
  have hoL : (h'.push (seqObj "list" acc.toList.toArray 0)).get? h'.objs.size = some (seqObj "list" acc.toList.toArray 0) := Heap.get?_push_size _ rfl
  have keep : ∀ b ob, h'.get? b = some ob → (h'.push (seqObj "list" acc.toList.toArray 0)).get? b = some ob := fun b ob e => Heap.get?_push_of_some _ e
  show wpAny _ _ _ _ _ { s with heap := h'.push (seqObj "list" acc.toList.toArray 0), toks := tk }
  refine wpAny_bind (wpAny_holding (PySem.W.list_sort_data (β := Ent) (R := fun v b => v = .ref b.2.1) (bs := ys) (enc := encT) (s := { s with heap := h'.push (seqObj "list" acc.toList.toArray 0), toks := tk }) hoL
    (by rw [ea]; exact refs_each ys) ?_ (encT_alike ys) (.inl fun d hd => ?_) z (fun b _ => ?_) fun out lo' eo => ?_))
  · have I2 : Inv X pins σ H { s with heap := h'.push (seqObj "list" acc.toList.toArray 0), toks := tk } := I1.kept keep
    rw [ea] at I2 ⊢
    exact each_key I2 _ ys hk
  · obtain ⟨b, hb, rfl⟩ := List.mem_map.mp hd
    obtain ⟨x, r, e⟩ := List.exists_cons_of_ne_nil (hne b hb)
    exact ⟨.int x, r.map .int, by unfold encT; rw [e]; rfl⟩
  · have := encT_depth b
    show X.A.in1.units + 1 + _ < _
    have : X.A.in1.units ≤ X.A.units + 1 := Nat.le_refl _
    omega
  · obtain ⟨e', he'⟩ := PyProof.Rows.sortedHeap_at (vs := acc.toList) (out := out.toArray) hoL
    have eout := each_refs eo
    have hlen : ((ys.mergeSort (PySem.W.dataLe false encT)).map fun y => V.ref y.2.1).length ≤ sizeLine := by rw [List.length_map, List.length_mergeSort]; exact z
    refine wpAny_pure ⟨_, rfl, .ref h'.objs.size, upd H h'.objs.size (.lst ((ys.mergeSort (PySem.W.dataLe false encT)).map fun y => V.ref y.2.1)), I1.laid (t' := tk) (fun b u e => ?_) (Nat.le_refl _)
      (show ObjOk X.prog X.w _ _ _ (.lst ((ys.mergeSort (PySem.W.dataLe false encT)).map fun y => V.ref y.2.1)) from ⟨hlen, out, e', by rw [eout]; exact vals_ent _, he'⟩), rfl, q _ (I1.hok.fresh (Nat.le_refl _))⟩
    have hb : b < h'.objs.size := Heap.lt_size e
    rw [PyProof.Rows.sortedHeap_old (Nat.ne_of_lt hb) (by rw [size_push']; exact Nat.lt_succ_of_lt hb)]
    exact Heap.get?_push_of_some _ e
end
end HS

/-! A small evaluator of our own for the defs that the laws reach: data, cells, answers. Tuples are plain data here; lists, dicts and instances lie in cells. -/
namespace HS
open PySem L2

/-- data: a cell by its number; a list that is only read (the script) -/
inductive D where
  | non | bl (b : Bool) | int (i : Int) | str (s : Str) | tup (xs : List D) | fz (xs : List D) | ref (n : Nat) | ty (n : String) | cls (k : Nat) | rng (lo hi : Int)
instance : Inhabited D := ⟨.non⟩

/-- a cell: a list of ours, a dict, an instance of the class k -/
inductive C where
  | lst (xs : List D) | dic (kvs : List (D × D)) | ins (k : Nat) (fs : List (Str × D)) | dit (kvs : List (List Int × D))
abbrev Hh := List C
abbrev En := List (Option D)

/-- an exception: the class k, its fields -/
structure X where
  k : Nat
  fs : List (Str × D)

/-- an answer: a value, an exception, or nothing is said -/
inductive R (α : Type) where
  | ok (a : α) (h : Hh) | ex (e : X) (h : Hh) | bad

def R.bind {α β : Type} (r : R α) (f : α → Hh → R β) : R β :=
  match r with
  | .ok a h => f a h
  | .ex e h => .ex e h
  | .bad => .bad
@[simp] theorem R.bind_ok {α β : Type} (a : α) (h : Hh) (f : α → Hh → R β) : (R.ok a h).bind f = f a h := rfl
@[simp] theorem R.bind_ex {α β : Type} (e : X) (h : Hh) (f : α → Hh → R β) : (R.ex e h : R α).bind f = .ex e h := rfl
@[simp] theorem R.bind_bad {α β : Type} (f : α → Hh → R β) : (R.bad : R α).bind f = .bad := rfl
/-- an exception is not served here -/
def R.calm {α : Type} (r : R α) : R α := match r with | .ex _ _ => .bad | r => r
@[simp] theorem R.calm_ok {α : Type} (a : α) (h : Hh) : (R.ok a h).calm = .ok a h := rfl
@[simp] theorem R.calm_bad {α : Type} : (R.bad : R α).calm = .bad := rfl

/-! ### no cell within -/
mutual
def D.flat : D → Bool
  | .ref _ => false
  | .tup xs => D.flats xs
  | .fz xs => D.flats xs
  | _ => true
def D.flats : List D → Bool
  | [] => true
  | d :: ds => d.flat && D.flats ds
end
theorem D.flats_iff : ∀ ds : List D, D.flats ds = true ↔ ∀ d ∈ ds, d.flat = true
  | [] => by simp [D.flats]
  | d :: ds => by simp [D.flats, D.flats_iff ds]

/-! ### data through the cells, as the library's own data -/
mutual
def D.deepW (rd : Nat → Option PyData) : D → Option PyData
  | .non => some .none
  | .bl b => some (.bool b)
  | .int i => some (.int i)
  | .str s => some (.str s)
  | .tup xs => match D.deepsW rd xs with
    | some ys => some (.tuple ys)
    | none => none
  | .fz xs => match D.deepsW rd xs with
    | some ys => some (.list ys)
    | none => none
  | .ref k => rd k
  | .ty _ => none
  | .cls _ => none
  | .rng _ _ => none
def D.deepsW (rd : Nat → Option PyData) : List D → Option (List PyData)
  | [] => some []
  | d :: ds => match D.deepW rd d, D.deepsW rd ds with
    | some x, some xs => some (x :: xs)
    | _, _ => none
end
/-- lists within lists to the depth n -/
def deepR (h : Hh) : Nat → Nat → Option PyData
  | 0, _ => none
  | n + 1, k => match h[k]? with
    | some (.lst xs) => match D.deepsW (deepR h n) xs with
      | some ys => some (.list ys)
      | none => none
    | some (.dic []) => some (.dict [])
    | _ => none
def D.deep (h : Hh) (d : D) : Option PyData := d.deepW (deepR h 8)

/-! ### the syntax -/
inductive BO where | add | sub | mul | fdiv | mod | pow | shl
  deriving DecidableEq
inductive BF where
  | len | abs | int | divmod | gcd | tuple | list | sum | max | min | all | any | repr | sorted | comb | range
  deriving DecidableEq
/-- a class that isinstance asks for: built in, or the k-th own one -/
inductive Ty where | b (n : String) | own (k : Nat)
  deriving DecidableEq
/-- of the package's classes of errors the one is the other one, or stands under it: 0 is the base of all -/
def subC (k j : Nat) : Bool := decide (k = j) || decide (j = 0)
/-- how a def tells of a call that it makes: its text, or what it found; else a word -/
inductive Tk where
  | rep (k1 k2 : Nat) (s1 s2 : Str) | fnd (k : Nat) (s : Str)
  deriving DecidableEq
mutual
inductive E where
  | var (i : Nat) | int (n : Int) | bl (b : Bool) | non | str (s : Str) | glb (k : Nat)
  | bin (o : BO) (a b : E) | neg (a : E) | not (a : E)
  | cmp (o : CmpOp) (a b : E) | cmp2 (o p : CmpOp) (a b c : E)
  | and (a b : E) | or (a b : E)
  | ife (c a b : E)
  | tup (es : Es) | lst (es : Es) | dic0
  | idx (a b : E) | slc (a : E) (lo hi : Op)
  | call (f : Nat) (es : Es) | callk (f : Nat) (es : Es) (ks : List Nat) (vs : Es)
  | blt (b : BF) (es : Es)
  | isi (a : E) (t : Ty)
  | lc (elt : E) (t : T) (it : It) (tt : Op) (own : List Nat)
  | app (l a : E)
  | rsl (a : E) (lo : Op)
  | told (t : Tk) (e : E)
  | bits (a : E)
  | near (k : Nat) (x y z : E) (j : Nat) (lam : E)
  | dicT | dget (a k d : E) | dix (a k : E)
  | new (k f : Nat) (es : Es) | att (a : E) (x : Str) | mth (a : E) (k f : Nat) (x : Str) (es : Es)
inductive Es where
  | nil | cons (e : E) (es : Es)
inductive Op where
  | no | so (e : E)
/-- what a loop walks -/
inductive It where
  | pln (e : E) | rng (es : Es) | enm (e : E) | zip (a b : E) | rev (e : E) | rrng (es : Es) | rgv (e : E)
inductive T where
  | nm (i : Nat) | tup (ts : Ts) | sub (a i : E)
inductive Ts where
  | nil | cons (t : T) (ts : Ts)
end
mutual
inductive S where
  | asg (t : T) (e : E)
  | exp (e : E) | ret (e : E) | retn
  | ife (c : E) (a b : Ss) | whl (c : E) (b : Ss) | fr (t : T) (it : It) (b : Ss)
  | brk | cnt | pas | never
  | rse (k : Nat)
  | sat (o : E) (x : Str) (e : E)
  | dput (a k e : E) | aug (a i : E) (k : Int)
inductive Ss where
  | nil | cons (s : S) (ss : Ss)
end

/-! ### what the operations tell -/
def big : Nat := 100000000
/-- a product: the bits of both factors together have a bound -/
def mulOk (a b : Int) : Bool := decide (a.natAbs.log2 + b.natAbs.log2 < big)
def lineOk (n : Nat) : Bool := decide (n ≤ sizeLine)

def alloc (c : C) (h : Hh) : R D := .ok (.ref h.length) (h ++ [c])
/-- a list's items -/
def listAt (h : Hh) (n : Nat) : Option (List D) := match h[n]? with
  | some (.lst xs) => some xs
  | _ => none

def bop (o : BO) (x y : D) (h : Hh) : R D :=
  match o, x, y with
  | .add, .int a, .int b => .ok (.int (a + b)) h
  | .sub, .int a, .int b => .ok (.int (a - b)) h
  | .sub, .bl a, .bl b => .ok (.int ((if a = true then 1 else 0) - (if b = true then 1 else 0))) h
  | .mul, .int a, .int b => if mulOk a b then .ok (.int (a * b)) h else .bad
  | .fdiv, .int a, .int b => if b ≠ 0 ∧ Builtin.divisionGoesByPylong a b = false then .ok (.int (a.fdiv b)) h else .bad
  | .mod, .int a, .int b => if b ≠ 0 then .ok (.int (a.fmod b)) h else .bad
  | .pow, .int a, .int b => if 0 ≤ b ∧ b ≤ 1000000 ∧ a.natAbs < 2 ^ 64 then .ok (.int (a ^ b.toNat)) h else .bad
  | .shl, .int a, .int b => if 0 ≤ b ∧ b ≤ 1000000 ∧ a.natAbs < 2 ^ 64 then .ok (.int (a * 2 ^ b.toNat)) h else .bad
  | .add, .str a, .str b => if lineOk (a.length + b.length) then .ok (.str (a ++ b)) h else .bad
  | .add, .tup a, .tup b => if lineOk (a.length + b.length) then .ok (.tup (a ++ b)) h else .bad
  | .add, .ref l, .ref b => match h[l]?, h[b]? with
    | some (.lst xs), some (.lst ys) => if lineOk (xs.length + ys.length) then alloc (.lst (xs ++ ys)) h else .bad
    | _, _ => .bad
  | .mul, .ref l, .int k => match h[l]? with
    | some (.lst xs) => if -(2 ^ 63) ≤ k ∧ k < 2 ^ 63 ∧ lineOk (xs.length * k.toNat) = true then alloc (.lst (List.replicate k.toNat xs).flatten) h else .bad
    | _ => .bad
  | .mul, .tup xs, .int k => if xs ≠ [] ∧ 0 ≤ k ∧ k ≤ 1000 ∧ xs.length ≤ 1000 then .ok (.tup (List.replicate k.toNat xs).flatten) h else .bad
  | _, _, _ => .bad

/-- lists of unlike lengths are not like -/
def lenNe (h : Hh) : D → D → Option Bool
  | .ref n, .ref m => match h[n]?, h[m]? with
    | some (.lst xs), some (.lst ys) => if xs.length ≠ ys.length then some false else none
    | _, _ => none
  | _, _ => none
def eqD (h : Hh) (x y : D) : Option Bool :=
  match x, y with
  | .int a, .int b => some (decide (a = b))
  | .str a, .str b => some (decide (a = b))
  | .bl a, .bl b => some (decide (a = b))
  | x, y => match x.deep h, y.deep h with
    | some a, some b => if SeqAt.shaped a = true ∧ SeqAt.shaped b = true then some (PyData.eqv a b) else lenNe h x y
    | _, _ => lenNe h x y
/-- ints alone -/
def intsOf : List D → Option (List Int)
  | [] => some []
  | .int i :: ds => match intsOf ds with
    | some r => some (i :: r)
    | none => none
  | _ => none
def blsOf : List D → Option (List Bool)
  | [] => some []
  | .bl i :: ds => match blsOf ds with
    | some r => some (i :: r)
    | none => none
  | _ => none
def isNon : D → Bool
  | .non => true
  | _ => false
def cmpD (o : CmpOp) (x y : D) (h : Hh) : R D :=
  match o with
  | .Eq => match eqD h x y with | some b => .ok (.bl b) h | none => .bad
  | .NotEq => match eqD h x y with | some b => .ok (.bl (!b)) h | none => .bad
  | .Is => match y with
    | .bl b => match x with
      | .bl a => .ok (.bl (decide (a = b))) h
      | _ => .bad
    | _ => if isNon y then .ok (.bl (isNon x)) h else .bad
  | .IsNot => if isNon y then .ok (.bl (!isNon x)) h else .bad
  | .Lt => match x, y with
    | .int a, .int b => .ok (.bl (decide (a < b))) h
    | .tup a, .tup b => match intsOf a, intsOf b with
      | some ns, some ms => .ok (.bl (HT.lexLt ns ms)) h
      | _, _ => .bad
    | _, _ => .bad
  | .LtE => match x, y with
    | .int a, .int b => .ok (.bl (decide (a ≤ b))) h
    | _, _ => .bad
  | .Gt => match x, y with
    | .int a, .int b => .ok (.bl (decide (b < a))) h
    | _, _ => .bad
  | .GtE => match x, y with
    | .int a, .int b => .ok (.bl (decide (b ≤ a))) h
    | _, _ => .bad
  | .In => match x.deep h, y.deep h with
    | some a, some (.list ds) => if SeqAt.shaped a = true ∧ SeqAt.shaped (.list ds) = true then .ok (.bl (ds.any fun z => PyData.eqv z a)) h else .bad
    | some a, some (.tuple ds) => if SeqAt.shaped a = true ∧ SeqAt.shaped (.tuple ds) = true then .ok (.bl (ds.any fun z => PyData.eqv z a)) h else .bad
    | _, _ => .bad
  | .NotIn => match x.deep h, y.deep h with
    | some a, some (.list ds) => if SeqAt.shaped a = true ∧ SeqAt.shaped (.list ds) = true then .ok (.bl (!ds.any fun z => PyData.eqv z a)) h else .bad
    | some a, some (.tuple ds) => if SeqAt.shaped a = true ∧ SeqAt.shaped (.tuple ds) = true then .ok (.bl (!ds.any fun z => PyData.eqv z a)) h else .bad
    | _, _ => .bad

def ixD (x y : D) (h : Hh) : R D :=
  match x, y with
  | .tup xs, .int i => match atI xs i with | some v => .ok v h | none => .bad
  | .fz xs, .int i => match atI xs i with | some v => .ok v h | none => .bad
  | .ref n, .int i => match listAt h n with
    | some xs => match atI xs i with | some v => .ok v h | none => .bad
    | none => .bad
  | _, _ => .bad
/-- a slice's part of any list -/
def cutD (xs : List D) (lo hi : Option Int) : List D := (xs.drop (HT.sIx xs.length 0 lo)).take (HT.sIx xs.length xs.length hi - HT.sIx xs.length 0 lo)
def slD (x : D) (lo hi : Option Int) (h : Hh) : R D :=
  match x with
  | .tup xs => .ok (.tup (cutD xs lo hi)) h
  | .fz xs => alloc (.lst (cutD xs lo hi)) h
  | .ref n => match listAt h n with
    | some xs => alloc (.lst (cutD xs lo hi)) h
    | none => .bad
  | _ => .bad
/-- the type by which isinstance goes -/
def tyD (h : Hh) : D → Option String
  | .non => some "NoneType"
  | .bl _ => some "bool"
  | .int _ => some "int"
  | .str _ => some "str"
  | .tup _ => some "tuple"
  | .fz _ => some "list"
  | .ref n => match h[n]? with
    | some (.lst _) => some "list"
    | some (.dic _) => some "dict"
    | _ => none
  | _ => none
def isiD (h : Hh) (x : D) (t : Ty) : R D :=
  match t with
  | .b n => match tyD h x with
    | some m => match kitB m n with | some b => .ok (.bl b) h | none => .bad
    | none => .bad
  | .own _ => .bad

/-- the greatest, the first of the like ones -/
def maxOf : List Int → Int
  | [] => 0
  | [x] => x
  | x :: xs => if maxOf xs > x then maxOf xs else x
def minOf : List Int → Int
  | [] => 0
  | [x] => x
  | x :: xs => if minOf xs < x then minOf xs else x
/-- the items of a list, sorted -/
def sortD (h : Hh) (xs : List D) : Option (List D) :=
  match D.deepsW (deepR h 8) xs with
  | some ds => if (ds.all fun d => ds.all fun e => PySem.W.alike d e) = true ∧ (ds.all fun d => match d with | .tuple (_ :: _) => true | _ => false) = true ∧ (ds.all fun d => decide (d.depth ≤ 60)) = true ∧ lineOk xs.length = true then
      some (xs.mergeSort (PySem.W.dataLe false fun d => (d.deep h).getD .none)) else none
  | none => none
def encK (k : List Int) : PyData := .tuple (k.map .int)
def sortK (ks : List (List Int)) : List (List Int) := ks.mergeSort (PySem.W.dataLe false encK)
def keyD : D → Option (List Int)
  | .tup xs => intsOf xs
  | _ => none
def ditAt (h : Hh) : D → Option (List (List Int × D))
  | .ref n => match h[n]? with
    | some (.dit kvs) => some kvs
    | _ => none
  | _ => none
def findD (kvs : List (List Int × D)) (k : List Int) : Option D := (kvs.find? fun p => decide (p.1 = k)).map (·.2)
def putKD (kvs : List (List Int × D)) (k : List Int) (v : D) : List (List Int × D) := if (findD kvs k).isSome then kvs.map (fun p => if p.1 = k then (p.1, v) else p) else kvs ++ [(k, v)]
def dgetD (x k d : D) (h : Hh) : R D := match ditAt h x, keyD k with
  | some kvs, some ks => .ok ((findD kvs ks).getD d) h
  | _, _ => .bad
def dixD (x k : D) (h : Hh) : R D := match ditAt h x, keyD k with
  | some kvs, some ks => match findD kvs ks with | some v => .ok v h | none => .bad
  | _, _ => .bad
def dputD (x k v : D) (h : Hh) : R Unit := match x with
  | .ref n => match h[n]?, keyD k with
    | some (.dit kvs), some ks => if kvs.length < sizeLine then .ok () (h.set n (.dit (putKD kvs ks v))) else .bad
    | _, _ => .bad
  | _ => .bad
def isDit (x : D) (h : Hh) : Bool := (ditAt h x).isSome
def blt2 (b : BF) (xs : List D) (h : Hh) : R D :=
  match b, xs with
  | .sum, [.tup ys] => match intsOf ys with | some ns => .ok (.int ns.sum) h | none => .bad
  | .min, [.tup ys] => match intsOf ys with | some (n :: ns) => .ok (.int (ns.foldl min n)) h | _ => .bad
  | .range, [.int j] => .ok (.rng 0 j) h
  | .range, [.int i, .int j] => .ok (.rng i j) h
  | .sorted, [.ref n] => match h[n]? with
    | some (.lst xs) => match sortD h xs with | some ys => alloc (.lst ys) h | none => .bad
    | some (.dit kvs) => if (kvs.all fun p => !p.1.isEmpty) = true then alloc (.lst ((sortK (kvs.map (·.1))).map fun k => .tup (k.map .int))) h else .bad
    | _ => .bad
  | _, _ => .bad
def bltD (b : BF) (xs : List D) (h : Hh) : R D :=
  match b, xs with
  | .len, [.tup ys] => .ok (.int ys.length) h
  | .len, [.fz ys] => .ok (.int ys.length) h
  | .len, [.ref n] => match listAt h n with | some ys => .ok (.int ys.length) h | none => .bad
  | .abs, [.int i] => .ok (.int (if i < 0 then -i else i)) h
  | .int, [.int i] => .ok (.int i) h
  | .int, [.bl k] => .ok (.int (if k then 1 else 0)) h
  | .divmod, [.int i, .int j] => if 0 < j ∧ j < 1073741824 then .ok (.tup [.int (i / j), .int (i % j)]) h else .bad
  | .gcd, [.int i, .int j] => .ok (.int (Nat.gcd i.natAbs j.natAbs : Nat)) h
  | .tuple, [.tup ys] => .ok (.tup ys) h
  | .tuple, [.ref n] => match listAt h n with | some ys => .ok (.tup ys) h | none => .bad
  | .list, [.tup ys] => alloc (.lst ys) h
  | .list, [.ref n] => match listAt h n with | some ys => alloc (.lst ys) h | none => .bad
  | .sum, [.ref n] => match listAt h n with
    | some ys => match intsOf ys with | some ns => .ok (.int ns.sum) h | none => .bad
    | none => .bad
  | .max, [.int i, .int j] => .ok (.int (if j > i then j else i)) h
  | .min, [.int i, .int j] => .ok (.int (if j < i then j else i)) h
  | .max, [.ref n] => match listAt h n with
    | some ys => match intsOf ys with | some ns => if ns = [] then .bad else .ok (.int (maxOf ns)) h | none => .bad
    | none => .bad
  | .min, [.ref n] => match listAt h n with
    | some ys => match intsOf ys with | some ns => if ns = [] then .bad else .ok (.int (minOf ns)) h | none => .bad
    | none => .bad
  | .all, [.ref n] => match listAt h n with
    | some ys => match blsOf ys with | some bs => .ok (.bl (bs.all id)) h | none => .bad
    | none => .bad
  | .any, [.ref n] => match listAt h n with
    | some ys => match blsOf ys with | some bs => .ok (.bl (bs.any id)) h | none => .bad
    | none => .bad
  | .repr, [x] => match x.deep h with
    | some d => if d.showable = true ∧ d.shown.length ≤ sizeLine ∧ d.depth ≤ 60 then .ok (.str d.shown) h else .bad
    | none => .bad
  | b, xs => blt2 b xs h

/-- how many items xs[lo::-1] has -/
def rIx (n : Nat) : Option Int → Nat
  | none => n
  | some v => ((if v < 0 then max (v + (n : Int)) (-1) else min v ((n : Int) - 1)) + 1).toNat
def rslD (x : D) (lo : Option Int) (h : Hh) : R D :=
  match x with
  | .ref n => match listAt h n with
    | some xs => alloc (.lst (xs.take (rIx xs.length lo)).reverse) h
    | none => .bad
  | _ => .bad
def toldR (t : Tk) (r : R D) : R D :=
  match t, r with
  | .rep _ _ _ _, .ok x h => bltD .repr [x] h
  | .rep k1 k2 s1 s2, .ex y h => if subC y.k k1 = true ∧ y.fs = [] then .ok (.str (if subC y.k k2 = true then s1 else s2)) h else .bad
  | .fnd _ _, .ok x h => .ok x h
  | .fnd k s, .ex y h => if subC y.k k = true then .ok (.str s) h else .bad
  | _, .bad => .bad
/-- what stands guard: lists that a loop walks -/
abbrev Gs := List (Nat × List D)
def gsOk (gs : Gs) (h : Hh) : Prop := ∀ p ∈ gs, listAt h p.1 = some p.2
theorem gsOk_nil (h : Hh) : gsOk [] h := fun p hp => nomatch hp
def small62 (i : Int) : Bool := decide (-(2 ^ 62) ≤ i ∧ i < 2 ^ 62)
/-- lo, lo + 1, .. -/
def upFrom (lo : Int) (n : Nat) : List D := (List.range n).map fun k => .int (lo + (k : Nat))
def downFrom (hi : Int) (n : Nat) : List D := (List.range n).map fun k => .int (hi + (k : Nat) * (-1))
def pairs (xs ys : List D) : List D := (xs.zip ys).map fun p => .tup [p.1, p.2]
def numbered (xs : List D) : List D := (xs.zipIdx).map fun p => .tup [.int p.2, p.1]
/-- the items of a thing, what stands guard for them -/
def itemsD (x : D) (h : Hh) : R (List D × Gs) :=
  match x with
  | .tup xs => .ok (xs, []) h
  | .fz xs => .ok (xs, []) h
  | .ref n => match listAt h n with
    | some xs => .ok (xs, [(n, xs)]) h
    | none => .bad
  | _ => .bad
def rngD (xs : List D) (h : Hh) : R (List D × Gs) :=
  match xs with
  | [.int j] => if small62 j then .ok (upFrom 0 j.toNat, []) h else .bad
  | [.int i, .int j] => if small62 i && small62 j then .ok (upFrom i (j - i).toNat, []) h else .bad
  | [.int i, .int j, .int (-1)] => if small62 i && small62 j then .ok (downFrom i (i - j).toNat, []) h else .bad
  | _ => .bad
/-- the items of a range -/
def rgvD (x : D) (h : Hh) : R (List D × Gs) :=
  match x with
  | .rng lo hi => if small62 lo && small62 hi then .ok (upFrom lo (hi - lo).toNat, []) h else .bad
  | _ => .bad
def rrngD (xs : List D) (h : Hh) : R (List D × Gs) :=
  match xs with
  | [.int j] => if small62 j then .ok (downFrom (((j.toNat : Nat) : Int) - 1) j.toNat, []) h else .bad
  | [.int i, .int j] => if small62 i && small62 j then .ok (downFrom (i + (((j - i).toNat : Nat) : Int) - 1) (j - i).toNat, []) h else .bad
  | _ => .bad

/-! ### the evaluator -/
/-- what a def tells: arguments, cells -/
abbrev Fn := List D → Hh → R D
/-- no slot of these -/
def wipeD (ρ : En) : List Nat → En
  | [] => ρ
  | v :: vs => (wipeD ρ vs).set v none
def asBl (d : D) (h : Hh) : R Bool := match d with | .bl b => .ok b h | _ => .bad
def getI (d : D) (h : Hh) : R (Option Int) := match d with | .int i => .ok (some i) h | _ => .bad

open Classical in
/-- a comprehension's turns: el tells the new item, none where it is left out; the new list is made at the end -/
noncomputable def lcL (gs : Gs) (el : D → Hh → R (Option D)) : List D → List D → Hh → R D
  | [], acc, h => if gsOk gs h ∧ acc.length ≤ sizeLine then alloc (.lst acc) h else .bad
  | d :: ds, acc, h => if gsOk gs h ∧ acc.length < sizeLine then (el d h).bind fun o h1 => match o with
      | some y => lcL gs el ds (acc ++ [y]) h1
      | none => lcL gs el ds acc h1
    else .bad

def setI (o i v : D) (h : Hh) : R Unit :=
  match o, i with
  | .ref n, .int k => match h[n]? with
    | some (.lst xs) => match ixN xs.length k with
      | some j => .ok () (h.set n (.lst (xs.set j v)))
      | none => .bad
    | _ => .bad
  | _, _ => .bad
/-- x[y] += c -/
def augD (x y : D) (c : Int) (h : Hh) : R Unit := match x, y with
  | .ref n, .int k => match h[n]? with
    | some (.lst xs) => if 0 ≤ k ∧ k < 1000000 then match xs[k.toNat]? with
        | some (.int a) => .ok () (h.set n (.lst (xs.set k.toNat (.int (a + c)))))
        | _ => .bad
      else .bad
    | _ => .bad
  | _, _ => .bad
/-- a list of ours -/
def lstOk (x : D) (h : Hh) : R D :=
  match x with
  | .ref n => match h[n]? with
    | some (.lst _) => .ok (.ref n) h
    | _ => .bad
  | _ => .bad
def app (l v : D) (h : Hh) : R D :=
  match l with
  | .ref n => match h[n]? with
    | some (.lst xs) => if xs.length < sizeLine then .ok .non (h.set n (.lst (xs ++ [v]))) else .bad
    | _ => .bad
  | _ => .bad

/-- a search between two whole numbers, by a test that was handed on: of n / many -/
def nearN (rw : List D → Hh → R D) (tt : D → Hh → R Bool) (d0 : D) : Nat → Int → Int → Hh → R D
  | 0, _, _, _ => .bad
  | n + 1, lo, hi, h => if lo < hi then match bop .fdiv (.int (lo + hi + 1)) (.int 2) h with
      | .ok (.int m) h1 => match rw [.int m, d0] h1 with
        | .ok d h2 => match tt d h2 with
          | .ok true h3 => nearN rw tt d0 n m hi h3
          | .ok false h3 => nearN rw tt d0 n lo (m - 1) h3
          | _ => .bad
        | _ => .bad
      | _ => .bad
    else .ok (.int lo) h
def nearL (rw : List D → Hh → R D) (tt : D → Hh → R Bool) (d0 d1 d2 : D) (h : Hh) : R D := match d1, d2 with
  | .int lo, .int hi => nearN rw tt d0 ((hi - lo).toNat + 1) lo hi h
  | _, _ => .bad
/-- an attribute of an instance -/
def bitD (x : D) (h : Hh) : R D := match x with
  | .int i => .ok (.int (Builtin.Int.intBits i : Nat)) h
  | _ => .bad
def attD (x : D) (f : Str) (h : Hh) : R D :=
  match x with
  | .ref n => match h[n]? with
    | some (.ins _ fs) => match fs.lookup f with
      | some v => .ok v h
      | none => .bad
    | _ => .bad
  | _ => .bad
def putFd (f : Str) (v : D) : List (Str × D) → List (Str × D)
  | [] => [(f, v)]
  | (g, u) :: r => if g = f then (g, v) :: r else (g, u) :: putFd f v r
/-- o.f = v -/
def satD (o : D) (f : Str) (v : D) (h : Hh) : R Unit :=
  match o with
  | .ref n => match h[n]? with
    | some (.ins k fs) => if fs.length < 1000 then .ok () (h.set n (.ins k (putFd f v fs))) else .bad
    | _ => .bad
  | _ => .bad
/-- an instance of the class k without the attribute x -/
def insOk (k : Nat) (x : Str) (o : D) (h : Hh) : Bool :=
  match o with
  | .ref n => match h[n]? with
    | some (.ins j fs) => decide (j = k) && (fs.lookup x).isNone
    | _ => false
  | _ => false
mutual
noncomputable def ev (Δ : Nat → Fn) (gl : Nat → D) : E → En → Hh → R D
  | .var i, ρ, h => match ρ[i]? with
    | some (some d) => .ok d h
    | _ => .bad
  | .int n, _, h => .ok (.int n) h
  | .bl b, _, h => .ok (.bl b) h
  | .non, _, h => .ok .non h
  | .str s, _, h => .ok (.str s) h
  | .glb k, _, h => .ok (gl k) h
  | .bin o a b, ρ, h => (ev Δ gl a ρ h).bind fun x h => (ev Δ gl b ρ h).bind fun y h => bop o x y h
  | .neg a, ρ, h => (ev Δ gl a ρ h).bind fun x h => match x with | .int i => .ok (.int (-i)) h | _ => .bad
  | .not a, ρ, h => (ev Δ gl a ρ h).bind fun x h => match x with | .bl b => .ok (.bl (!b)) h | _ => .bad
  | .cmp o a b, ρ, h => (ev Δ gl a ρ h).bind fun x h => (ev Δ gl b ρ h).bind fun y h => cmpD o x y h
  | .cmp2 o p a b c, ρ, h => (ev Δ gl a ρ h).bind fun x h => (ev Δ gl b ρ h).bind fun y h => (cmpD o x y h).bind fun r h => match r with
    | .bl true => (ev Δ gl c ρ h).bind fun z h => cmpD p y z h
    | .bl false => .ok (.bl false) h
    | _ => .bad
  | .and a b, ρ, h => (ev Δ gl a ρ h).bind fun x h => match x with | .bl true => ev Δ gl b ρ h | .bl false => .ok (.bl false) h | _ => .bad
  | .or a b, ρ, h => (ev Δ gl a ρ h).bind fun x h => match x with | .bl false => ev Δ gl b ρ h | .bl true => .ok (.bl true) h | _ => .bad
  | .ife c a b, ρ, h => (ev Δ gl c ρ h).bind fun x h => match x with | .bl true => ev Δ gl a ρ h | .bl false => ev Δ gl b ρ h | _ => .bad
  | .tup es, ρ, h => (evs Δ gl es ρ h).bind fun xs h => if lineOk xs.length then .ok (.tup xs) h else .bad
  | .lst es, ρ, h => (evs Δ gl es ρ h).bind fun xs h => if lineOk xs.length then alloc (.lst xs) h else .bad
  | .dic0, _, h => alloc (.dic []) h
  | .idx a b, ρ, h => (ev Δ gl a ρ h).bind fun x h => (ev Δ gl b ρ h).bind fun y h => ixD x y h
  | .slc a lo hi, ρ, h => (ev Δ gl a ρ h).bind fun x h => (evo Δ gl lo ρ h).bind fun l h => (evo Δ gl hi ρ h).bind fun u h => slD x l u h
  | .call f es, ρ, h => (evs Δ gl es ρ h).bind fun xs h => Δ f xs h
  | .callk f es ks vs, ρ, h => (evs Δ gl es ρ h).bind fun xs h => (evs Δ gl vs ρ h).bind fun ys h => Δ f (xs ++ ks.map fun k => ys.getD k .non) h
  | .blt b es, ρ, h => (evs Δ gl es ρ h).bind fun xs h => bltD b xs h
  | .isi a t, ρ, h => (ev Δ gl a ρ h).bind fun x h => isiD h x t
  | .lc elt t it tt own, ρ, h => (evi Δ gl it ρ h).bind fun p h => lcL p.2 (fun d h => ((asn Δ gl t d (wipeD ρ own) h).bind fun ρ1 h => (evt Δ gl tt ρ1 h).bind fun b h =>
      if b = true then (ev Δ gl elt ρ1 h).bind fun y h => .ok (some y) h else .ok none h).calm) p.1 [] h
  | .app l a, ρ, h => (ev Δ gl l ρ h).bind fun x h => (lstOk x h).bind fun x h => (ev Δ gl a ρ h).bind fun y h => app x y h
  | .rsl a lo, ρ, h => (ev Δ gl a ρ h).bind fun x h => (evo Δ gl lo ρ h).bind fun l h => rslD x l h
  | .told t e, ρ, h => toldR t (ev Δ gl e ρ h)
  | .new k f es, ρ, h => (evs Δ gl es ρ h).bind fun xs h => (Δ f (.ref h.length :: xs) (h ++ [.ins k []])).bind fun d h1 => if isNon d then .ok (.ref h.length) h1 else .bad
  | .near k x y z j lam, ρ, h => (ev Δ gl x ρ h).bind fun d0 h => (ev Δ gl y ρ h).bind fun d1 h => (ev Δ gl z ρ h).bind fun d2 h =>
    nearL (Δ k) (fun d h => (ev Δ gl lam (ρ.set j (some d)) h).bind asBl) d0 d1 d2 h
  | .dicT, _, h => alloc (.dit []) h
  | .dget a k d, ρ, h => (ev Δ gl a ρ h).bind fun x h => if isDit x h then (ev Δ gl k ρ h).bind fun y h => (ev Δ gl d ρ h).bind fun z h => dgetD x y z h else .bad
  | .dix a k, ρ, h => (ev Δ gl a ρ h).bind fun x h => (ev Δ gl k ρ h).bind fun y h => dixD x y h
  | .bits a, ρ, h => (ev Δ gl a ρ h).bind fun x h => bitD x h
  | .att a x, ρ, h => (ev Δ gl a ρ h).bind fun o h => attD o x h
  | .mth a k f x es, ρ, h => (ev Δ gl a ρ h).bind fun o h => if insOk k x o h then (evs Δ gl es ρ h).bind fun xs h => Δ f (o :: xs) h else .bad
noncomputable def evs (Δ : Nat → Fn) (gl : Nat → D) : Es → En → Hh → R (List D)
  | .nil, _, h => .ok [] h
  | .cons e es, ρ, h => (ev Δ gl e ρ h).bind fun x h => (evs Δ gl es ρ h).bind fun xs h => .ok (x :: xs) h
/-- a slice's end -/
noncomputable def evo (Δ : Nat → Fn) (gl : Nat → D) : Op → En → Hh → R (Option Int)
  | .no, _, h => .ok none h
  | .so e, ρ, h => (ev Δ gl e ρ h).bind fun x h => getI x h
/-- a comprehension's if -/
noncomputable def evt (Δ : Nat → Fn) (gl : Nat → D) : Op → En → Hh → R Bool
  | .no, _, h => .ok true h
  | .so e, ρ, h => (ev Δ gl e ρ h).bind fun x h => asBl x h
noncomputable def evi (Δ : Nat → Fn) (gl : Nat → D) : It → En → Hh → R (List D × Gs)
  | .pln e, ρ, h => (ev Δ gl e ρ h).bind fun x h => itemsD x h
  | .rng es, ρ, h => (evs Δ gl es ρ h).bind fun xs h => rngD xs h
  | .enm e, ρ, h => (ev Δ gl e ρ h).bind fun x h => (itemsD x h).bind fun p h => .ok (numbered p.1, p.2) h
  | .zip a b, ρ, h => (ev Δ gl a ρ h).bind fun x h => (ev Δ gl b ρ h).bind fun y h => (itemsD x h).bind fun p h => (itemsD y h).bind fun q h => .ok (pairs p.1 q.1, p.2 ++ q.2) h
  | .rev e, ρ, h => (ev Δ gl e ρ h).bind fun x h => (itemsD x h).bind fun p h => .ok (p.1.reverse, p.2) h
  | .rrng es, ρ, h => (evs Δ gl es ρ h).bind fun xs h => rrngD xs h
  | .rgv e, ρ, h => (ev Δ gl e ρ h).bind fun x h => rgvD x h
noncomputable def asn (Δ : Nat → Fn) (gl : Nat → D) : T → D → En → Hh → R En
  | .nm i, d, ρ, h => .ok (ρ.set i (some d)) h
  | .tup ts, d, ρ, h => match d with | .tup xs => asns Δ gl ts xs ρ h | _ => .bad
  | .sub a i, d, ρ, h => (ev Δ gl a ρ h).bind fun o h => (ev Δ gl i ρ h).bind fun k h => (setI o k d h).bind fun _ h => .ok ρ h
noncomputable def asns (Δ : Nat → Fn) (gl : Nat → D) : Ts → List D → En → Hh → R En
  | .nil, xs, ρ, h => match xs with | [] => .ok ρ h | _ => .bad
  | .cons t ts, xs, ρ, h => match xs with | x :: xs => (asn Δ gl t x ρ h).bind fun ρ h => asns Δ gl ts xs ρ h | [] => .bad
end

/-- a statement's end -/
inductive F where
  | nx (ρ : En) | rt (d : D) | bk (ρ : En) | ct (ρ : En) | xc (e : X) (ρ : En)
def R.toF {α : Type} (r : R α) (ρ : En) (k : α → Hh → R F) : R F :=
  match r with
  | .ok a h => k a h
  | .ex e h => .ok (.xc e ρ) h
  | .bad => .bad
@[simp] theorem R.toF_ok {α : Type} (a : α) (h : Hh) (ρ : En) (k : α → Hh → R F) : (R.ok a h).toF ρ k = k a h := rfl
@[simp] theorem R.toF_ex {α : Type} (e : X) (h : Hh) (ρ : En) (k : α → Hh → R F) : (R.ex e h : R α).toF ρ k = .ok (.xc e ρ) h := rfl
@[simp] theorem R.toF_bad {α : Type} (ρ : En) (k : α → Hh → R F) : (R.bad : R α).toF ρ k = .bad := rfl

open Classical in
noncomputable def forL (gs : Gs) (tg : D → En → Hh → R En) (bd : En → Hh → R F) : List D → En → Hh → R F
  | [], ρ, h => if gsOk gs h then .ok (.nx ρ) h else .bad
  | d :: ds, ρ, h => if gsOk gs h then (tg d ρ h).calm.bind fun ρ1 h1 => (bd ρ1 h1).bind fun f h2 => match f with
      | .nx ρ2 => forL gs tg bd ds ρ2 h2
      | .ct ρ2 => forL gs tg bd ds ρ2 h2
      | .bk ρ2 => .ok (.nx ρ2) h2
      | .rt d => .ok (.rt d) h2
      | .xc e ρ2 => .ok (.xc e ρ2) h2
    else .bad
/-- a while, at most n turns -/
def whN (c : En → Hh → R Bool) (bd : En → Hh → R F) : Nat → En → Hh → Option (R F)
  | 0, _, _ => none
  | n + 1, ρ, h => match c ρ h with
    | .ok true h1 => match bd ρ h1 with
      | .ok (.nx ρ2) h2 => whN c bd n ρ2 h2
      | .ok (.ct ρ2) h2 => whN c bd n ρ2 h2
      | .ok (.bk ρ2) h2 => some (.ok (.nx ρ2) h2)
      | .ok (.rt d) h2 => some (.ok (.rt d) h2)
      | .ok (.xc e ρ2) h2 => some (.ok (.xc e ρ2) h2)
      | .ex _ _ => some .bad
      | .bad => some .bad
    | .ok false h1 => some (.ok (.nx ρ) h1)
    | .ex e h1 => some (.ok (.xc e ρ) h1)
    | .bad => some .bad
open Classical in
/-- a while that comes to an end -/
noncomputable def whL (c : En → Hh → R Bool) (bd : En → Hh → R F) (ρ : En) (h : Hh) : R F :=
  if x : ∃ n r, whN c bd n ρ h = some r then (Classical.choose_spec x).choose else .bad

mutual
noncomputable def ex (Δ : Nat → Fn) (gl : Nat → D) : S → En → Hh → R F
  | .asg t e, ρ, h => (ev Δ gl e ρ h).toF ρ fun d h => (asn Δ gl t d ρ h).calm.toF ρ fun ρ1 h => .ok (.nx ρ1) h
  | .exp e, ρ, h => (ev Δ gl e ρ h).toF ρ fun _ h => .ok (.nx ρ) h
  | .ret e, ρ, h => (ev Δ gl e ρ h).toF ρ fun d h => .ok (.rt d) h
  | .retn, _, h => .ok (.rt .non) h
  | .ife c a b, ρ, h => ((ev Δ gl c ρ h).bind asBl).toF ρ fun t h => if t = true then exs Δ gl a ρ h else exs Δ gl b ρ h
  | .whl c b, ρ, h => whL (fun ρ h => (ev Δ gl c ρ h).bind asBl) (fun ρ h => exs Δ gl b ρ h) ρ h
  | .fr t it b, ρ, h => (evi Δ gl it ρ h).toF ρ fun p h => forL p.2 (fun d ρ h => asn Δ gl t d ρ h) (fun ρ h => exs Δ gl b ρ h) p.1 ρ h
  | .brk, ρ, h => .ok (.bk ρ) h
  | .cnt, ρ, h => .ok (.ct ρ) h
  | .pas, ρ, h => .ok (.nx ρ) h
  | .never, _, _ => .bad
  | .rse k, ρ, h => .ok (.xc ⟨k, []⟩ ρ) h
  | .sat o x e, ρ, h => (ev Δ gl e ρ h).toF ρ fun v h => (ev Δ gl o ρ h).toF ρ fun a h => (satD a x v h).calm.toF ρ fun _ h => .ok (.nx ρ) h
  | .dput a k e, ρ, h => (ev Δ gl e ρ h).toF ρ fun v h => (ev Δ gl a ρ h).toF ρ fun x h => (ev Δ gl k ρ h).toF ρ fun y h => (dputD x y v h).calm.toF ρ fun _ h => .ok (.nx ρ) h
  | .aug a i k, ρ, h => (ev Δ gl a ρ h).toF ρ fun x h => (ev Δ gl i ρ h).toF ρ fun y h => (augD x y k h).calm.toF ρ fun _ h => .ok (.nx ρ) h
noncomputable def exs (Δ : Nat → Fn) (gl : Nat → D) : Ss → En → Hh → R F
  | .nil, ρ, h => .ok (.nx ρ) h
  | .cons s ss, ρ, h => (ex Δ gl s ρ h).bind fun f h => match f with
    | .nx ρ1 => exs Δ gl ss ρ1 h
    | f => .ok f h
end

open Classical in
/-- what a def hands back: cells that it made and nobody can reach are left out -/
noncomputable def tidy (h0 : Hh) (d : D) (h : Hh) : R D :=
  if d.flat = true ∧ h0 <+: h then .ok d h0
  else match d with
    | .ref n => match h[n]? with
      | some (.lst xs) => if D.flats xs = true ∧ h0 <+: h ∧ h0.length ≤ n then .ok (.ref h0.length) (h0 ++ [.lst xs]) else .ok d h
      | _ => .ok d h
    | _ => .ok d h
/-- a def: the number of its parameters, of its slots, its body -/
structure Df where
  np : Nat
  ns : Nat
  body : Ss
noncomputable def run (Δ : Nat → Fn) (gl : Nat → D) (f : Df) : Fn := fun xs h0 =>
  if xs.length = f.np then
    match exs Δ gl f.body (xs.map some ++ List.replicate (f.ns - xs.length) none) h0 with
    | .ok (.rt d) h => tidy h0 d h
    | .ok (.nx _) h => tidy h0 .non h
    | .ok (.xc e _) h => .ex e h
    | _ => .bad
  else .bad
end HS

/-! How the evaluator's data and cells lie in the layer's heap. -/
namespace HS
open PySem L2

/-- a list that nobody changes: known to its object, or an object of the module -/
def SqF (K : PySem.W.Frag) (H : Hp) (a : Addr) (vs : List V) : Prop :=
  (∃ o, H a = some (.frz o (.lst vs))) ∨
    ∃ (o : Obj) (its : Array Value) (n : Nat), K.lookup a = some o ∧ o.cls = .type "list" ∧ o.dict = none ∧ o.data = .seq its n ∧ its.size ≤ sizeLine ∧ Vals vs its.toList
theorem SqF.l {K : PySem.W.Frag} {H : Hp} {a : Addr} {vs : List V} (h : SqF K H a vs) : SqL K H a vs := by
  rcases h with ⟨o, h⟩ | h
  · exact .inl (.inr ⟨o, h⟩)
  · exact .inr h

/-- the module's own: where its classes lie; the tables of code objects -/
structure Md where
  c : Nat → Option Addr
  T : List (Addr × Str)
  cs : List (Addr × Addr)
  i : Nat → Option Addr := fun _ => none
section
variable (K : PySem.W.Frag) (cl : Md)
mutual
/-- d lies as v; μ: where the cells lie; cl: where the own classes lie -/
def Rl (H : Hp) (μ : List Addr) : D → V → Prop
  | .non, v => v = .non
  | .bl b, v => v = .bl b
  | .int i, v => v = .int i
  | .str s, v => v = .str s
  | .ty n, v => v = .ty n
  | .cls k, v => ∃ a, v = .ref a ∧ cl.c k = some a
  | .tup xs, v => ∃ a vs, v = .ref a ∧ SqT K H a vs ∧ Rls H μ xs vs
  | .fz xs, v => ∃ a vs, v = .ref a ∧ SqF K H a vs ∧ Rls H μ xs vs
  | .ref n, v => ∃ a, v = .ref a ∧ μ[n]? = some a
  | .rng lo hi, v => ∃ a, v = .ref a ∧ H a = some (.rng lo hi)
def Rls (H : Hp) (μ : List Addr) : List D → List V → Prop
  | [], vs => vs = []
  | d :: ds, vs => ∃ v r, vs = v :: r ∧ Rl H μ d v ∧ Rls H μ ds r
end
/-- a cell -/
def RlC (H : Hp) (μ : List Addr) (a : Addr) : C → Prop
  | .lst xs => ∃ vs, H a = some (.lst vs) ∧ Rls K cl H μ xs vs
  | .dic kvs => kvs = [] ∧ H a = some (.dK [])
  | .ins k fs => ∃ C dx vs, cl.i k = some C ∧ H a = some (.ins C dx vs) ∧ H dx = some (.own a) ∧ fs.map (·.1) = vs.map (·.1) ∧ Rls K cl H μ (fs.map (·.2)) (vs.map (·.2))
  | .dit kvs => ∃ ys : List Ent, H a = some (.ext (DTo a ys)) ∧ KeysT K H ys ∧ ys.map (·.1) = kvs.map (·.1) ∧ Rls K cl H μ (kvs.map (·.2)) (ys.map (·.2.2))
structure RlH (H : Hp) (μ : List Addr) (h : Hh) : Prop where
  tb : LamX.Tabs cl.T H
  len : μ.length = h.length
  nd : μ.Nodup
  at_ : ∀ (n : Nat) (c : C) (a : Addr), h[n]? = some c → μ[n]? = some a → RlC K cl H μ a c
/-- the slots -/
structure RlE (H : Hp) (μ : List Addr) (σ : L2.St) (ρ : En) : Prop where
  len : σ.length = ρ.length
  at_ : ∀ (i : Nat) (d : D), ρ[i]? = some (some d) → ∃ v, σ[i]? = some (some v) ∧ Rl K cl H μ d v
end
/-- what never changes stands -/
structure Tp (H H' : Hp) : Prop where
  tup : ∀ b xs, H b = some (.tup xs) → H' b = some (.tup xs)
  frz : ∀ b o u, H b = some (.frz o u) → H' b = some (.frz o u)
  own : ∀ b y, H b = some (.own y) → H' b = some (.own y)
  rng : ∀ b lo hi, H b = some (.rng lo hi) → H' b = some (.rng lo hi)
theorem Tp.refl {H : Hp} : Tp H H := ⟨fun _ _ e => e, fun _ _ _ e => e, fun _ _ e => e, fun _ _ _ e => e⟩
theorem Tp.trans {H H' H'' : Hp} (a : Tp H H') (b : Tp H' H'') : Tp H H'' := ⟨fun x xs e => b.tup x xs (a.tup x xs e), fun x o u e => b.frz x o u (a.frz x o u e), fun x y e => b.own x y (a.own x y e), fun x y z e => b.rng x y z (a.rng x y z e)⟩
theorem Tp.sqT {K : PySem.W.Frag} {H H' : Hp} (t : Tp H H') {a : Addr} {vs : List V} (h : SqT K H a vs) : SqT K H' a vs := by
  rcases h with (h | ⟨o, h⟩) | h
  · exact .inl (.inl (t.tup _ _ h))
  · exact .inl (.inr ⟨o, t.frz _ _ _ h⟩)
  · exact .inr h
theorem Tp.keys {K : PySem.W.Frag} {H H' : Hp} (t : Tp H H') {ys : List Ent} (h : KeysT K H ys) : KeysT K H' ys := fun y m => t.sqT (h y m)
theorem Tp.sqF {K : PySem.W.Frag} {H H' : Hp} (t : Tp H H') {a : Addr} {vs : List V} (h : SqF K H a vs) : SqF K H' a vs := by
  rcases h with ⟨o, h⟩ | h
  · exact .inl ⟨o, t.frz _ _ _ h⟩
  · exact .inr h

section
variable {K : PySem.W.Frag} {cl : Md} {H H' H'' : Hp} {μ μ' μ'' : List Addr}
theorem pre_get {α : Type} {l l' : List α} (p : l <+: l') {n : Nat} {x : α} (h : l[n]? = some x) : l'[n]? = some x := by
  obtain ⟨t, rfl⟩ := p
  have := (List.getElem?_eq_some_iff.mp h).1
  rw [List.getElem?_append_left this]
  exact h
mutual
theorem Rl.mono (t : Tp H H') (p : μ <+: μ') : ∀ {d : D} {v : V}, Rl K cl H μ d v → Rl K cl H' μ' d v
  | .non, _, h => h
  | .bl _, _, h => h
  | .int _, _, h => h
  | .str _, _, h => h
  | .ty _, _, h => h
  | .cls _, _, h => h
  | .tup xs, _, h => by
    simp only [Rl] at h ⊢
    obtain ⟨a, vs, e, s, r⟩ := h
    exact ⟨a, vs, e, t.sqT s, Rls.mono t p r⟩
  | .fz xs, _, h => by
    simp only [Rl] at h ⊢
    obtain ⟨a, vs, e, s, r⟩ := h
    exact ⟨a, vs, e, t.sqF s, Rls.mono t p r⟩
  | .ref _, _, h => by
    simp only [Rl] at h ⊢
    obtain ⟨a, e, m⟩ := h
    exact ⟨a, e, pre_get p m⟩
  | .rng _ _, _, h => by
    simp only [Rl] at h ⊢
    obtain ⟨a, e, m⟩ := h
    exact ⟨a, e, t.rng _ _ _ m⟩
theorem Rls.mono (t : Tp H H') (p : μ <+: μ') : ∀ {ds : List D} {vs : List V}, Rls K cl H μ ds vs → Rls K cl H' μ' ds vs
  | [], _, h => by
    simp only [Rls] at h ⊢
    exact h
  | d :: ds, _, h => by
    simp only [Rls] at h ⊢
    obtain ⟨v, r, e, h1, h2⟩ := h
    exact ⟨v, r, e, Rl.mono t p h1, Rls.mono t p h2⟩
end
-- cells that are left out: what has none stays
mutual
theorem Rl.flat : ∀ {d : D} {v : V}, d.flat = true → Rl K cl H μ d v → Rl K cl H μ' d v
  | .non, _, _, h => h
  | .bl _, _, _, h => h
  | .int _, _, _, h => h
  | .str _, _, _, h => h
  | .ty _, _, _, h => h
  | .cls _, _, _, h => h
  | .rng _ _, _, _, h => h
  | .tup xs, _, f, h => by
    simp only [Rl] at h ⊢
    obtain ⟨a, vs, e, s, r⟩ := h
    exact ⟨a, vs, e, s, Rls.flat (by simpa [D.flat] using f) r⟩
  | .fz xs, _, f, h => by
    simp only [Rl] at h ⊢
    obtain ⟨a, vs, e, s, r⟩ := h
    exact ⟨a, vs, e, s, Rls.flat (by simpa [D.flat] using f) r⟩
  | .ref _, _, f, _ => by simp [D.flat] at f
theorem Rls.flat : ∀ {ds : List D} {vs : List V}, D.flats ds = true → Rls K cl H μ ds vs → Rls K cl H μ' ds vs
  | [], _, _, h => by
    simp only [Rls] at h ⊢
    exact h
  | d :: ds, _, f, h => by
    simp only [Rls] at h ⊢
    simp only [D.flats, Bool.and_eq_true] at f
    obtain ⟨v, r, e, h1, h2⟩ := h
    exact ⟨v, r, e, Rl.flat f.1 h1, Rls.flat f.2 h2⟩
end
-- cells that are left out behind: what was told before them stays
mutual
theorem Rl.back (p : μ <+: μ') : ∀ {d : D} {v v0 : V}, Rl K cl H' μ' d v → Rl K cl H μ d v0 → Rl K cl H' μ d v
  | .non, _, _, h, _ => h
  | .bl _, _, _, h, _ => h
  | .int _, _, _, h, _ => h
  | .str _, _, _, h, _ => h
  | .ty _, _, _, h, _ => h
  | .cls _, _, _, h, _ => h
  | .rng _ _, _, _, h, _ => h
  | .tup xs, _, _, h, g => by
    simp only [Rl] at h g ⊢
    obtain ⟨a, vs, e, s, r⟩ := h
    obtain ⟨_, _, _, _, r0⟩ := g
    exact ⟨a, vs, e, s, Rls.back p r r0⟩
  | .fz xs, _, _, h, g => by
    simp only [Rl] at h g ⊢
    obtain ⟨a, vs, e, s, r⟩ := h
    obtain ⟨_, _, _, _, r0⟩ := g
    exact ⟨a, vs, e, s, Rls.back p r r0⟩
  | .ref n, _, _, h, g => by
    simp only [Rl] at h g ⊢
    obtain ⟨a, e, m⟩ := h
    obtain ⟨b, _, m0⟩ := g
    have q := pre_get p m0
    rw [m] at q
    cases q
    exact ⟨a, e, m0⟩
theorem Rls.back (p : μ <+: μ') : ∀ {ds : List D} {vs vs0 : List V}, Rls K cl H' μ' ds vs → Rls K cl H μ ds vs0 → Rls K cl H' μ ds vs
  | [], _, _, h, _ => by
    simp only [Rls] at h ⊢
    exact h
  | d :: ds, _, _, h, g => by
    simp only [Rls] at h g ⊢
    obtain ⟨v, r, e, h1, h2⟩ := h
    obtain ⟨_, _, _, g1, g2⟩ := g
    exact ⟨v, r, e, Rl.back p h1 g1, Rls.back p h2 g2⟩
end
theorem Rls.nil {vs : List V} : Rls K cl H μ [] vs ↔ vs = [] := by simp [Rls]
theorem Rls.cons {d : D} {ds : List D} {vs : List V} : Rls K cl H μ (d :: ds) vs ↔ ∃ v r, vs = v :: r ∧ Rl K cl H μ d v ∧ Rls K cl H μ ds r := by simp [Rls]
theorem Rls.length : ∀ {ds : List D} {vs : List V}, Rls K cl H μ ds vs → ds.length = vs.length
  | [], _, h => by rw [Rls.nil] at h; subst h; rfl
  | d :: ds, _, h => by
    rw [Rls.cons] at h
    obtain ⟨v, r, rfl, _, h2⟩ := h
    simp [Rls.length h2]
theorem Rls.get : ∀ {ds : List D} {vs : List V} {i : Nat} {d : D}, Rls K cl H μ ds vs → ds[i]? = some d → ∃ v, vs[i]? = some v ∧ Rl K cl H μ d v
  | [], _, _, _, _, e => by simp at e
  | x :: ds, _, 0, d, h, e => by
    rw [Rls.cons] at h
    obtain ⟨v, r, rfl, h1, _⟩ := h
    simp at e
    subst e
    exact ⟨v, rfl, h1⟩
  | x :: ds, _, i + 1, d, h, e => by
    rw [Rls.cons] at h
    obtain ⟨v, r, rfl, _, h2⟩ := h
    obtain ⟨u, e1, r1⟩ := Rls.get h2 (show ds[i]? = some d by simpa using e)
    exact ⟨u, by simpa using e1, r1⟩
theorem Rls.append : ∀ {ds es : List D} {vs ws : List V}, Rls K cl H μ ds vs → Rls K cl H μ es ws → Rls K cl H μ (ds ++ es) (vs ++ ws)
  | [], _, _, _, h, g => by rw [Rls.nil] at h; subst h; exact g
  | d :: ds, es, _, ws, h, g => by
    rw [Rls.cons] at h
    obtain ⟨v, r, rfl, h1, h2⟩ := h
    rw [List.cons_append, Rls.cons]
    exact ⟨v, r ++ ws, rfl, h1, Rls.append h2 g⟩
theorem Rls.take : ∀ {ds : List D} {vs : List V} (n : Nat), Rls K cl H μ ds vs → Rls K cl H μ (ds.take n) (vs.take n)
  | _, _, 0, _ => by simp [Rls]
  | [], _, n + 1, h => by rw [Rls.nil] at h; subst h; simp [Rls]
  | d :: ds, _, n + 1, h => by
    rw [Rls.cons] at h
    obtain ⟨v, r, rfl, h1, h2⟩ := h
    rw [List.take_succ_cons, List.take_succ_cons, Rls.cons]
    exact ⟨v, _, rfl, h1, Rls.take n h2⟩
theorem Rls.drop : ∀ {ds : List D} {vs : List V} (n : Nat), Rls K cl H μ ds vs → Rls K cl H μ (ds.drop n) (vs.drop n)
  | _, _, 0, h => h
  | [], _, n + 1, h => by rw [Rls.nil] at h; subst h; simp [Rls]
  | d :: ds, _, n + 1, h => by
    rw [Rls.cons] at h
    obtain ⟨v, r, rfl, h1, h2⟩ := h
    exact Rls.drop n h2
theorem Rls.set {d : D} {v : V} (g : Rl K cl H μ d v) : ∀ {ds : List D} {vs : List V} (n : Nat), Rls K cl H μ ds vs → Rls K cl H μ (ds.set n d) (vs.set n v)
  | [], _, _, h => by rw [Rls.nil] at h; subst h; simp [Rls]
  | x :: ds, _, 0, h => by
    rw [Rls.cons] at h
    obtain ⟨u, r, rfl, h1, h2⟩ := h
    rw [List.set_cons_zero, List.set_cons_zero, Rls.cons]
    exact ⟨v, r, rfl, g, h2⟩
  | x :: ds, _, n + 1, h => by
    rw [Rls.cons] at h
    obtain ⟨u, r, rfl, h1, h2⟩ := h
    rw [List.set_cons_succ, List.set_cons_succ, Rls.cons]
    exact ⟨u, _, rfl, h1, Rls.set g n h2⟩
theorem Rls.one {d : D} {v : V} (h : Rl K cl H μ d v) : Rls K cl H μ [d] [v] := by
  rw [Rls.cons]; exact ⟨v, [], rfl, h, by simp [Rls]⟩
theorem Rls.rep {ds : List D} {vs : List V} (h : Rls K cl H μ ds vs) : ∀ n : Nat, Rls K cl H μ (List.replicate n ds).flatten (List.replicate n vs).flatten
  | 0 => by simp [Rls]
  | n + 1 => by
    rw [List.replicate_succ, List.replicate_succ, List.flatten_cons, List.flatten_cons]
    exact h.append (Rls.rep h n)
theorem Rls.ints : ∀ {ns : List Int} {vs : List V}, Rls K cl H μ (ns.map D.int) vs ↔ vs = ns.map V.int
  | [], vs => by simp [Rls]
  | n :: ns, vs => by
    rw [List.map_cons, Rls.cons]
    constructor
    · rintro ⟨v, r, rfl, h1, h2⟩
      have h1 : v = V.int n := by simpa [Rl] using h1
      rw [Rls.ints] at h2
      rw [h1, h2]; rfl
    · rintro rfl
      exact ⟨_, _, rfl, by simp [Rl], Rls.ints.mpr rfl⟩
theorem intsOf_map : ∀ {ds : List D} {ns : List Int}, intsOf ds = some ns → ds = ns.map D.int
  | [], ns, h => by simp [intsOf] at h; subst h; rfl
  | .int i :: ds, ns, h => by
    simp only [intsOf] at h
    split at h
    · rename_i r e
      cases h
      rw [intsOf_map e]; rfl
    · cases h
  | .non :: _, _, h => by simp [intsOf] at h
  | .bl _ :: _, _, h => by simp [intsOf] at h
  | .str _ :: _, _, h => by simp [intsOf] at h
  | .ty _ :: _, _, h => by simp [intsOf] at h
  | .cls _ :: _, _, h => by simp [intsOf] at h
  | .rng _ _ :: _, _, h => by simp [intsOf] at h
  | .tup _ :: _, _, h => by simp [intsOf] at h
  | .fz _ :: _, _, h => by simp [intsOf] at h
  | .ref _ :: _, _, h => by simp [intsOf] at h
theorem intsOf_ints : ∀ ns : List Int, intsOf (ns.map D.int) = some ns
  | [] => rfl
  | n :: ns => by simp [intsOf, intsOf_ints ns]
theorem Rls.bls : ∀ {ns : List Bool} {vs : List V}, Rls K cl H μ (ns.map D.bl) vs → vs = ns.map V.bl
  | [], vs, h => by simpa [Rls] using h
  | n :: ns, vs, h => by
    rw [List.map_cons, Rls.cons] at h
    obtain ⟨v, r, rfl, h1, h2⟩ := h
    have h1 : v = V.bl n := by simpa [Rl] using h1
    rw [h1, Rls.bls h2]; rfl
theorem blsOf_map : ∀ {ds : List D} {ns : List Bool}, blsOf ds = some ns → ds = ns.map D.bl
  | [], ns, h => by simp [blsOf] at h; subst h; rfl
  | .bl i :: ds, ns, h => by
    simp only [blsOf] at h
    split at h
    · rename_i r e
      cases h
      rw [blsOf_map e]; rfl
    · cases h
  | .non :: _, _, h => by simp [blsOf] at h
  | .int _ :: _, _, h => by simp [blsOf] at h
  | .str _ :: _, _, h => by simp [blsOf] at h
  | .ty _ :: _, _, h => by simp [blsOf] at h
  | .cls _ :: _, _, h => by simp [blsOf] at h
  | .rng _ _ :: _, _, h => by simp [blsOf] at h
  | .tup _ :: _, _, h => by simp [blsOf] at h
  | .fz _ :: _, _, h => by simp [blsOf] at h
  | .ref _ :: _, _, h => by simp [blsOf] at h
theorem blsOf_bls : ∀ ns : List Bool, blsOf (ns.map D.bl) = some ns
  | [] => rfl
  | n :: ns => by simp [blsOf, blsOf_bls ns]

theorem RlE.mono {σ : L2.St} {ρ : En} (e : RlE K cl H μ σ ρ) (t : Tp H H') (p : μ <+: μ') : RlE K cl H' μ' σ ρ :=
  ⟨e.len, fun i d q => let ⟨v, a, b⟩ := e.at_ i d q; ⟨v, a, b.mono t p⟩⟩
theorem RlE.set {σ : L2.St} {ρ : En} {d : D} {v : V} (e : RlE K cl H μ σ ρ) (r : Rl K cl H μ d v) (i : Nat) : RlE K cl H μ (σ.set i (some v)) (ρ.set i (some d)) := by
  refine ⟨by simp [e.len], fun j x q => ?_⟩
  by_cases hj : i = j
  · subst hj
    by_cases hi : i < ρ.length
    · rw [List.getElem?_set_self hi] at q
      cases q
      exact ⟨v, by rw [List.getElem?_set_self (by rw [e.len]; exact hi)], r⟩
    · rw [List.getElem?_eq_none (by simpa using hi)] at q
      cases q
  · rw [List.getElem?_set_ne hj] at q ⊢
    exact e.at_ j x q
theorem RlE.unset {σ : L2.St} {ρ : En} (e : RlE K cl H μ σ ρ) (i : Nat) : RlE K cl H μ (σ.set i none) (ρ.set i none) := by
  refine ⟨by simp [e.len], fun j x q => ?_⟩
  by_cases hj : i = j
  · subst hj
    by_cases hi : i < ρ.length
    · rw [List.getElem?_set_self hi] at q
      cases q
    · rw [List.getElem?_eq_none (by simpa using hi)] at q
      cases q
  · rw [List.getElem?_set_ne hj] at q ⊢
    exact e.at_ j x q
theorem RlE.wipe {σ : L2.St} {ρ : En} (e : RlE K cl H μ σ ρ) : ∀ vs : List Nat, RlE K cl H μ (wipe σ vs) (wipeD ρ vs)
  | [] => e
  | v :: vs => (RlE.wipe e vs).unset v
theorem RlE.start {ds : List D} {vs : List V} (r : Rls K cl H μ ds vs) (n : Nat) : RlE K cl H μ (vs.map some ++ List.replicate (n - vs.length) none) (ds.map some ++ List.replicate (n - ds.length) none) := by
  have l := r.length
  refine ⟨by simp [l], fun i d q => ?_⟩
  by_cases hi : i < ds.length
  · rw [List.getElem?_append_left (by simpa using hi), List.getElem?_map] at q
    cases e : ds[i]? with
    | none => rw [e] at q; cases q
    | some x =>
      rw [e] at q
      cases q
      obtain ⟨v, e1, r1⟩ := r.get e
      exact ⟨v, by rw [List.getElem?_append_left (by simp; omega), List.getElem?_map, e1]; rfl, r1⟩
  · rw [List.getElem?_append_right (by simpa using hi), List.getElem?_replicate] at q
    split at q <;> cases q

/-! ### tables of code objects -/
theorem tabs_new {T : List (Addr × Str)} {H : Hp} {p : Addr} {o : HO} (t : LamX.Tabs T H) (n : H p = none) : LamX.Tabs T (upd H p o) := t.ext fun b x e => by rw [upd_ne (ne_of_none e n)]; exact e
theorem tabs_upd {T : List (Addr × Str)} {H : Hp} {a : Addr} {u o : HO} (t : LamX.Tabs T H) (e : H a = some u) (h1 : ∀ ps, u ≠ .tbl ps) (h2 : ∀ q, u ≠ LamX.CodeO a q) : LamX.Tabs T (upd H a o) := fun p hp => by
  obtain ⟨ps, a1, a2, a3⟩ := t p hp
  refine ⟨ps, ?_, a2, fun pos cv hc => ?_⟩
  · rw [upd_ne (fun z => by rw [z, e] at a1; exact h1 _ (Option.some.inj a1))]; exact a1
  · obtain ⟨c, e1, e2⟩ := a3 pos cv hc
    exact ⟨c, e1, by rw [upd_ne (fun z => by rw [z, e] at e2; exact h2 _ (Option.some.inj e2))]; exact e2⟩
/-- no thing that is known, but a table -/
def NoT (H : Hp) (a : Addr) : Prop := H a = none ∨ ∃ ps, H a = some (.tbl ps)

theorem not_code {u : HO} {a : Addr} (h : ∀ φ, u ≠ .ext φ) (q : Str) : u ≠ LamX.CodeO a q := fun z => h _ z
theorem dto_code {a : Addr} {ys : List Ent} (q : Str) : HO.ext (DTo a ys) ≠ LamX.CodeO a q := fun z => by
  unfold LamX.CodeO at z
  injection z with z
  have g : Heap.get? { objs := Array.replicate (a + 1) { cls := .none, data := .fields #[.none, .str q 0] } } a = some { cls := .none, data := .fields #[.none, .str q 0] } := by
    simp [Heap.get?]
  have r : DTo a ys { objs := Array.replicate (a + 1) { cls := .none, data := .fields #[.none, .str q 0] } } := by
    rw [z]
    exact ⟨_, _, 0, g, rfl, rfl⟩
  obtain ⟨_, _, xs, _, o, es, ep, e, _, d, _⟩ := r
  rw [g] at e
  cases e
  cases d
/-! ### a step -/
/-- from the heap H with the cells at μ to H' with the cells h' at μ' -/
structure Go (K : PySem.W.Frag) (cl : Md) (μ : List Addr) (H : Hp) (h' : Hh) (μ' : List Addr) (H' : Hp) : Prop where
  pre : μ <+: μ'
  tp : Tp H H'
  fr : ∀ a o, a ∉ μ → (∀ ps, o ≠ .tbl ps) → H a = some o → H' a = some o
  nw : ∀ a ∈ μ', a ∈ μ ∨ NoT H a
  rh : RlH K cl H' μ' h'
theorem Go.refl {h : Hh} (r : RlH K cl H μ h) : Go K cl μ H h μ H := ⟨List.prefix_rfl, .refl, fun _ _ _ _ e => e, fun _ m => .inl m, r⟩
theorem Go.trans {h' h'' : Hh} (a : Go K cl μ H h' μ' H') (b : Go K cl μ' H' h'' μ'' H'') : Go K cl μ H h'' μ'' H'' where
  pre := a.pre.trans b.pre
  tp := a.tp.trans b.tp
  fr := fun x o n nt e => b.fr x o (fun m => (a.nw x m).elim n fun m => by
    rcases m with m | ⟨ps, m⟩
    · rw [e] at m; cases m
    · rw [e] at m; exact nt ps (Option.some.inj m)) nt (a.fr x o n nt e)
  nw := fun x m => by
    rcases b.nw x m with m | m
    · exact a.nw x m
    · by_cases hx : x ∈ μ
      · exact .inl hx
      · refine .inr ?_
        cases e : H x with
        | none => exact .inl e
        | some o =>
          by_cases nt : ∀ ps, o ≠ .tbl ps
          · have z := a.fr x o hx nt e
            rcases m with m | ⟨ps, m⟩
            · rw [z] at m; cases m
            · rw [z] at m; exact absurd (Option.some.inj m) (nt ps)
          · obtain ⟨ps, z⟩ : ∃ ps, o = .tbl ps := Classical.byContradiction fun k => nt fun ps z => k ⟨ps, z⟩
            exact .inr ⟨ps, by rw [e, z]⟩
  rh := b.rh
theorem Tp.upd_new {p : Addr} {o : HO} (n : H p = none) : Tp H (upd H p o) := ⟨fun b xs e => by rw [upd_ne (ne_of_none e n)]; exact e, fun b x u e => by rw [upd_ne (ne_of_none e n)]; exact e, fun b y e => by rw [upd_ne (ne_of_none e n)]; exact e, fun b x y e => by rw [upd_ne (ne_of_none e n)]; exact e⟩
theorem Tp.upd_mut {p : Addr} {o u : HO} (e : H p = some u) (m : Mut (some u)) : Tp H (upd H p o) := by
  refine ⟨fun b xs q => ?_, fun b x y q => ?_, fun b y q => ?_, fun b x y q => ?_⟩
  · have n : b ≠ p := fun z => by rw [z, e] at q; cases q; exact m
    rw [upd_ne n]; exact q
  · have n : b ≠ p := fun z => by rw [z, e] at q; cases q; exact m
    rw [upd_ne n]; exact q
  · have n : b ≠ p := fun z => by rw [z, e] at q; cases q; exact m
    rw [upd_ne n]; exact q
  · have n : b ≠ p := fun z => by rw [z, e] at q; cases q; exact m
    rw [upd_ne n]; exact q
theorem RlC.there {a : Addr} {c : C} (r : RlC K cl H μ a c) : ∃ o, H a = some o := by
  cases c with
  | lst xs => exact ⟨_, r.choose_spec.1⟩
  | dic kvs => exact ⟨_, r.2⟩
  | ins _ _ => obtain ⟨C, dx, vs, _, q, _⟩ := r; exact ⟨_, q⟩
  | dit kvs => obtain ⟨ys, q, _⟩ := r; exact ⟨_, q⟩
theorem RlC.mono {a : Addr} {c : C} (t : Tp H H') (p : μ <+: μ') (r : RlC K cl H μ a c) (e : H' a = H a) : RlC K cl H' μ' a c := by
  cases c with
  | lst xs => obtain ⟨vs, q, r⟩ := r; exact ⟨vs, by rw [e]; exact q, r.mono t p⟩
  | dic kvs => exact ⟨r.1, by rw [e]; exact r.2⟩
  | ins _ _ => obtain ⟨C, dx, vs, q0, q, q1, q2, r⟩ := r; exact ⟨C, dx, vs, q0, by rw [e]; exact q, t.own _ _ q1, q2, r.mono t p⟩
  | dit kvs => obtain ⟨ys, q, k, e1, r⟩ := r; exact ⟨ys, by rw [e]; exact q, t.keys k, e1, r.mono t p⟩
theorem RlH.fresh {h : Hh} (r : RlH K cl H μ h) {p : Addr} (n : H p = none) : p ∉ μ := fun m => by
  obtain ⟨i, hi⟩ := List.getElem?_of_mem m
  have hl : i < h.length := by rw [← r.len]; exact (List.getElem?_eq_some_iff.mp hi).1
  obtain ⟨o, e⟩ := (r.at_ i h[i] p (by simp [hl]) hi).there
  rw [n] at e; cases e
/-- nothing but a new thing that is no cell -/
theorem Go.new {h : Hh} {p : Addr} {o : HO} (r : RlH K cl H μ h) (n : H p = none) : Go K cl μ H h μ (upd H p o) := by
  have t : Tp H (upd H p o) := Tp.upd_new n
  refine ⟨List.prefix_rfl, t, fun a x _ _ e => by rw [upd_ne (ne_of_none e n)]; exact e, fun _ m => .inl m, tabs_new r.tb n, r.len, r.nd, fun m c a e1 e2 => ?_⟩
  have q := r.at_ m c a e1 e2
  obtain ⟨x, ex⟩ := q.there
  exact q.mono t List.prefix_rfl (by rw [upd_ne (ne_of_none ex n)])
/-- a new cell -/
theorem Go.alloc {h : Hh} {p : Addr} {o : HO} {c : C} (r : RlH K cl H μ h) (n : H p = none) (rc : RlC K cl (upd H p o) μ p c) : Go K cl μ H (h ++ [c]) (μ ++ [p]) (upd H p o) := by
  have t : Tp H (upd H p o) := Tp.upd_new n
  have pm := r.fresh n
  refine ⟨List.prefix_append _ _, t, fun a x _ _ e => by rw [upd_ne (ne_of_none e n)]; exact e, fun a m => ?_, tabs_new r.tb n, by simp [r.len], ?_, fun m c' a e1 e2 => ?_⟩
  · rcases List.mem_append.mp m with m | m
    · exact .inl m
    · exact .inr (.inl (by rw [List.mem_singleton.mp m]; exact n))
  · exact List.nodup_append.mpr ⟨r.nd, by simp, fun a ha b hb => fun e => pm (by rw [List.mem_singleton.mp hb] at e; rw [← e]; exact ha)⟩
  · by_cases hm : m < h.length
    · rw [List.getElem?_append_left hm] at e1
      rw [List.getElem?_append_left (by rw [r.len]; exact hm)] at e2
      have q := r.at_ m c' a e1 e2
      obtain ⟨x, ex⟩ := q.there
      exact q.mono t (List.prefix_append _ _) (by rw [upd_ne (ne_of_none ex n)])
    · have em : m = h.length := by
        have := (List.getElem?_eq_some_iff.mp e1).1
        simp at this
        omega
      subst em
      rw [List.getElem?_append_right (Nat.le_refl _)] at e1
      rw [List.getElem?_append_right (by rw [r.len]; exact Nat.le_refl _)] at e2
      simp at e1
      rw [r.len] at e2
      simp at e2
      subst e1 e2
      exact rc.mono .refl (List.prefix_append _ _) rfl
/-- a cell is changed -/
theorem Go.set {h : Hh} {i : Nat} {a : Addr} {o u : HO} {c : C} (r : RlH K cl H μ h) (e : μ[i]? = some a) (eu : H a = some u) (m : Mut (some u)) (mx : ∀ q, u ≠ LamX.CodeO a q) (rc : RlC K cl (upd H a o) μ a c) : Go K cl μ H (h.set i c) μ (upd H a o) := by
  have t : Tp H (upd H a o) := Tp.upd_mut eu m
  have ma : a ∈ μ := List.mem_of_getElem? e
  have hi : i < h.length := by rw [← r.len]; exact (List.getElem?_eq_some_iff.mp e).1
  refine ⟨List.prefix_rfl, t, fun b x nb _ q => by rw [upd_ne (fun z => nb (by rw [z]; exact ma))]; exact q, fun _ m => .inl m, tabs_upd r.tb eu (fun ps z => by rw [z] at m; exact m) mx, by simp [r.len], r.nd, fun j c' b e1 e2 => ?_⟩
  by_cases hj : i = j
  · subst hj
    rw [List.getElem?_set_self hi] at e1
    cases e1
    rw [e] at e2; cases e2
    exact rc
  · rw [List.getElem?_set_ne hj] at e1
    have q := r.at_ j c' b e1 e2
    have nb : b ≠ a := fun z => by
      subst z
      obtain ⟨h1, e1'⟩ := List.getElem?_eq_some_iff.mp e
      obtain ⟨h2, e2'⟩ := List.getElem?_eq_some_iff.mp e2
      exact hj ((List.getElem_inj r.nd).mp (e1'.trans e2'.symm))
    exact q.mono t List.prefix_rfl (by rw [upd_ne nb])
end
end HS

/-! A tuple taken once, taken no time at all. -/
namespace L2
open PySem PyProof.Rows
theorem tuple_mul1W (l : Addr) (items : Array Value) (n : Nat) (dd : Option Addr) (sl : Array (Option Value)) (u : Tok) :
    Meets (Builtin.«tuple.__mul__» ⟨[.ref l, .int 1 u], []⟩) (fun _ R s => s.heap.get? l = some { cls := .type "tuple", dict := dd, data := .seq items n, slots := sl } ∧ R (.ok (.ret (Value.ref l))) s) :=
  .of_wp fun prog w A R s h => by
    obtain ⟨hp, g, d, tk, os⟩ := s
    obtain ⟨hl, h⟩ := h
    have f1 := AutoSeq1.idx_int
    have c0 : (decide ((1 : Int) < -(2 ^ 63)) || decide ((1 : Int) ≥ 2 ^ 63)) = false := by decide
    have c1 : (items.isEmpty || (1 : Int) == 1) = true := by cases items.isEmpty <;> rfl
    wp_walk using wpAny_loadPart' hl
    repeat (first
      | (refine wpAny_ite_false (decide_eq_false (by rw [c0]; exact Bool.false_ne_true)) ?_; wp_walk using wpAny_loadPart' hl)
      | (refine wpAny_ite_true (decide_eq_true (by rw [c1])) ?_; wp_walk using wpAny_loadPart' hl))
    exact ⟨_, rfl, h⟩
theorem tuple_mul0W (l : Addr) (items : Array Value) (n : Nat) (dd : Option Addr) (sl : Array (Option Value)) (u : Tok) (hi : items.isEmpty = false) :
    Meets (Builtin.«tuple.__mul__» ⟨[.ref l, .int 0 u], []⟩) (fun _ R s => s.heap.get? l = some { cls := .type "tuple", dict := dd, data := .seq items n, slots := sl } ∧
      R (.ok (.ret (Value.ref s.heap.objs.size))) { s with heap := s.heap.push { cls := Value.type "tuple", data := Data.seq #[] }, toks := s.toks }) :=
  .of_wp fun prog w A R s h => by
    obtain ⟨hp, g, d, tk, os⟩ := s
    obtain ⟨hl, h⟩ := h
    have f1 := AutoSeq1.idx_int
    have c0 : (decide ((0 : Int) < -(2 ^ 63)) || decide ((0 : Int) ≥ 2 ^ 63)) = false := by decide
    have c1 : (items.isEmpty || (0 : Int) == 1) = false := by rw [hi]; rfl
    have c2 : (decide ((0 : Int) ≤ 0) || items.isEmpty) = true := by rw [hi]; rfl
    wp_walk using wpAny_loadPart' hl
    repeat (first
      | (refine wpAny_ite_false (decide_eq_false (by rw [c0]; exact Bool.false_ne_true)) ?_; wp_walk using wpAny_loadPart' hl)
      | (refine wpAny_ite_false (decide_eq_false (by rw [c1]; exact Bool.false_ne_true)) ?_; wp_walk using wpAny_loadPart' hl)
      | (refine wpAny_ite_true (decide_eq_true (by rw [c2])) ?_; wp_walk using wpAny_loadPart' hl))
    exact ⟨_, rfl, h⟩
def rRepT1 (K : PySem.W.Frag) : R2 := fun x y H Q => ∃ l xs, x = .ref l ∧ y = .int 1 ∧ SqT K H l xs ∧ Q (.ref l) H
def rRepT0 (K : PySem.W.Frag) : R2 := fun x y H Q => ∃ l xs, x = .ref l ∧ y = .int 0 ∧ SqT K H l xs ∧ xs ≠ [] ∧ ∀ p, H p = none → Q (.ref p) (upd H p (.tup []))
section
variable {X : Cx}
theorem op_repT1 : OpR X (binaryOp .Mult) (rRepT1 X.K) := by
  intro pins s σ H x y v u Q I rx ry h
  obtain ⟨l, xs, rfl, rfl, hT, q⟩ := h
  cases rx
  obtain ⟨t, rfl⟩ := ry
  obtain ⟨its, r, ⟨⟨cls, dd, data, sl⟩, ho, hc, n, hd⟩, hs⟩ := I.tuple hT
  simp only at hc hd
  subst hc hd
  refine wpAny_binaryOp_repeat_ref (T := "tuple") (U := "int") (by decide) ⟨_, ho, rfl⟩ (fun s' => typeIs_int s' 1 t) noFill_tuple_mul F.fills_int_mul F.slot_int_rmul repeat_tuple F.slot_int_index.lookup
    (call_meets F.slot_int_rmul (typeIs_int s 1 t) F.entry_int_rmul (F.args_int_rmul_2 _ _) (int_rmul_tuple 1 t l its.toArray n dd sl)
      ⟨ho, rfl, ⟨_, ho, rfl⟩, call_meets F.slot_tuple_mul ⟨_, ho, rfl⟩ F.entry_tuple_mul (F.args_tuple_mul_2 _ _) (tuple_mul1W l its.toArray n dd sl t) ⟨ho, ?_⟩⟩)
  exact ⟨.ref l, H, I, rfl, q⟩
theorem op_repT0 : OpR X (binaryOp .Mult) (rRepT0 X.K) := by
  intro pins s σ H x y v u Q I rx ry h
  obtain ⟨l, xs, rfl, rfl, hT, hne, q⟩ := h
  cases rx
  obtain ⟨t, rfl⟩ := ry
  obtain ⟨its, r, ⟨⟨cls, dd, data, sl⟩, ho, hc, n, hd⟩, hs⟩ := I.tuple hT
  simp only at hc hd
  subst hc hd
  have hle : its.length = xs.length := r.length.symm
  have hi : its.toArray.isEmpty = false := by
    cases its with
    | nil => exact absurd (List.eq_nil_of_length_eq_zero hle.symm) hne
    | cons a b => rfl
  refine wpAny_binaryOp_repeat_ref (T := "tuple") (U := "int") (by decide) ⟨_, ho, rfl⟩ (fun s' => typeIs_int s' 0 t) noFill_tuple_mul F.fills_int_mul F.slot_int_rmul repeat_tuple F.slot_int_index.lookup
    (call_meets F.slot_int_rmul (typeIs_int s 0 t) F.entry_int_rmul (F.args_int_rmul_2 _ _) (int_rmul_tuple 0 t l its.toArray n dd sl)
      ⟨ho, rfl, ⟨_, ho, rfl⟩, call_meets F.slot_tuple_mul ⟨_, ho, rfl⟩ F.entry_tuple_mul (F.args_tuple_mul_2 _ _) (tuple_mul0W l its.toArray n dd sl t hi) ⟨ho, ?_⟩⟩)
  refine ⟨.ref s.heap.objs.size, _, I.laid (t' := s.toks) (o := .tup []) (fun b ob q => Heap.get?_push_of_some _ q) (Nat.le_refl _) ?_, rfl, q _ (I.hok.fresh (Nat.le_refl _))⟩
  exact ⟨by rw [sizeLine_eq]; decide, _, .nil, IsTup.new _ _⟩
theorem op_subB : OpR X (binaryOp .Sub) (fun x y H Q => ∃ a b : Bool, x = .bl a ∧ y = .bl b ∧ Q (.int ((if a = true then 1 else 0) - (if b = true then 1 else 0))) H) := by
  intro pins s σ H x y v u Q I rx ry h
  obtain ⟨a, b, rfl, rfl, q⟩ := h
  cases rx
  cases ry
  exact PyProof.Rows.sub_bool ⟨.int _, H, I.tok _, ⟨_, rfl⟩, q⟩
end
end L2

/-! What the operations tell is what the model does: binary operations, comparisons, subscripts, slices, calls of built-in functions. -/
namespace HS
open PySem L2 PyProof.Rows

/-- an answer is met: P behind a value, W behind an exception -/
def Pg {α : Type} (K : PySem.W.Frag) (cl : Md) (μ : List Addr) (H : Hp) (r : R α) (P : α → Hh → List Addr → Hp → Prop) (W : X → Hh → List Addr → Hp → Prop) : Prop :=
  match r with
  | .ok a h' => ∀ μ' H', Go K cl μ H h' μ' H' → P a h' μ' H'
  | .ex e h' => ∀ μ' H', Go K cl μ H h' μ' H' → W e h' μ' H'
  | .bad => False
section
variable {K : PySem.W.Frag} {cl : Md} {H H' : Hp} {μ μ' : List Addr}
theorem Pg.imp {α : Type} {r : R α} {P P' : α → Hh → List Addr → Hp → Prop} {W W' : X → Hh → List Addr → Hp → Prop} (x : Pg K cl μ H r P W) (h : ∀ a h' μ' H', Go K cl μ H h' μ' H' → P a h' μ' H' → P' a h' μ' H') (hw : ∀ e h' μ' H', Go K cl μ H h' μ' H' → W e h' μ' H' → W' e h' μ' H') : Pg K cl μ H r P' W' := by
  cases r with
  | ok a h' => exact fun μ' H' g => h _ _ _ _ g (x μ' H' g)
  | ex e h' => exact fun μ' H' g => hw _ _ _ _ g (x μ' H' g)
  | bad => exact x
theorem Pg.bind {α β : Type} {r : R α} {f : α → Hh → R β} {P : β → Hh → List Addr → Hp → Prop} {W : X → Hh → List Addr → Hp → Prop} (x : Pg K cl μ H (r.bind f) P W) :
    Pg K cl μ H r (fun a h' μ' H' => Pg K cl μ' H' (f a h') P W) W := by
  cases r with
  | ok a h' =>
    refine fun μ' H' g => ?_
    have x' : Pg K cl μ H (f a h') P W := x
    show Pg K cl μ' H' (f a h') P W
    cases e : f a h' with
    | ok b h'' => rw [e] at x'; exact fun μ'' H'' g' => x' μ'' H'' (g.trans g')
    | ex b h'' => rw [e] at x'; exact fun μ'' H'' g' => x' μ'' H'' (g.trans g')
    | bad => rw [e] at x'; exact x'
  | ex e h' => exact x
  | bad => exact x
/-- at another place, a step further on -/
theorem Pg.far {α : Type} {h' : Hh} {r : R α} {P : α → Hh → List Addr → Hp → Prop} {W : X → Hh → List Addr → Hp → Prop} (g : Go K cl μ H h' μ' H') (x : Pg K cl μ H r P W) : Pg K cl μ' H' r P W := by
  cases r with
  | ok a h'' => exact fun μ'' H'' g' => x μ'' H'' (g.trans g')
  | ex e h'' => exact fun μ'' H'' g' => x μ'' H'' (g.trans g')
  | bad => exact x
/-- a value, told by data -/
abbrev VP (K : PySem.W.Frag) (cl : Md) (Q : VK) : D → Hh → List Addr → Hp → Prop := fun d _ μ' H' => ∀ v, Rl K cl H' μ' d v → Q v H'
abbrev NoX : X → Hh → List Addr → Hp → Prop := fun _ _ _ _ => False

/-- an operation by data, as the layer's operations are told -/
def tB2 (K : PySem.W.Frag) (cl : Md) (m : D → D → Hh → R D) : R2 := fun x y H Q => ∃ μ h a b W, RlH K cl H μ h ∧ Rl K cl H μ a x ∧ Rl K cl H μ b y ∧ Pg K cl μ H (m a b h) (VP K cl Q) W
theorem Rl.int_iff {i : Int} {v : V} : Rl K cl H μ (.int i) v ↔ v = .int i := by simp [Rl]
theorem Rl.bl_iff {i : Bool} {v : V} : Rl K cl H μ (.bl i) v ↔ v = .bl i := by simp [Rl]
theorem Rl.str_iff {i : Str} {v : V} : Rl K cl H μ (.str i) v ↔ v = .str i := by simp [Rl]
theorem Rl.non_iff {v : V} : Rl K cl H μ .non v ↔ v = .non := by simp [Rl]
theorem Rl.tup_iff {xs : List D} {v : V} : Rl K cl H μ (.tup xs) v ↔ ∃ a vs, v = .ref a ∧ SqT K H a vs ∧ Rls K cl H μ xs vs := by simp [Rl]
theorem Rl.fz_iff {xs : List D} {v : V} : Rl K cl H μ (.fz xs) v ↔ ∃ a vs, v = .ref a ∧ SqF K H a vs ∧ Rls K cl H μ xs vs := by simp [Rl]
theorem Rl.ref_iff {n : Nat} {v : V} : Rl K cl H μ (.ref n) v ↔ ∃ a, v = .ref a ∧ μ[n]? = some a := by simp [Rl]

/-- a value that needs no cell, nothing else changes -/
theorem Pg.val {h : Hh} {d : D} {v : V} {Q : VK} {W : X → Hh → List Addr → Hp → Prop} (r : RlH K cl H μ h) (x : Pg K cl μ H (.ok d h) (VP K cl Q) W) (q : Rl K cl H μ d v) : Q v H := x μ H (.refl r) v q
/-- a new tuple -/
theorem Pg.tup {h : Hh} {xs : List D} {vs : List V} {p : Addr} {Q : VK} {W : X → Hh → List Addr → Hp → Prop} (r : RlH K cl H μ h) (x : Pg K cl μ H (.ok (.tup xs) h) (VP K cl Q) W) (q : Rls K cl H μ xs vs) (n : H p = none) : Q (.ref p) (upd H p (.tup vs)) :=
  x μ _ (.new r n) _ (Rl.tup_iff.mpr ⟨p, vs, rfl, .of upd_same, q.mono (Tp.upd_new n) List.prefix_rfl⟩)
/-- a new list -/
theorem Pg.lst {h : Hh} {xs : List D} {vs : List V} {p : Addr} {Q : VK} {W : X → Hh → List Addr → Hp → Prop} (r : RlH K cl H μ h) (x : Pg K cl μ H (alloc (.lst xs) h) (VP K cl Q) W) (q : Rls K cl H μ xs vs) (n : H p = none) : Q (.ref p) (upd H p (.lst vs)) := by
  refine x (μ ++ [p]) _ (.alloc r n ⟨vs, upd_same, q.mono (Tp.upd_new n) List.prefix_rfl⟩) _ (Rl.ref_iff.mpr ⟨p, rfl, ?_⟩)
  rw [← r.len]
  simp
/-- a list cell -/
theorem RlH.lst {h : Hh} {n : Nat} {xs : List D} {v : V} (r : RlH K cl H μ h) (e : h[n]? = some (.lst xs)) (q : Rl K cl H μ (.ref n) v) : ∃ a vs, v = .ref a ∧ μ[n]? = some a ∧ H a = some (.lst vs) ∧ Rls K cl H μ xs vs := by
  obtain ⟨a, rfl, m⟩ := Rl.ref_iff.mp q
  obtain ⟨vs, e1, r1⟩ := r.at_ n _ a e m
  exact ⟨a, vs, rfl, m, e1, r1⟩
theorem listAt_eq {h : Hh} {n : Nat} {xs : List D} (e : listAt h n = some xs) : h[n]? = some (.lst xs) := by
  unfold listAt at e
  split at e
  · cases e; assumption
  · cases e
end

section
variable {X : Cx} {cl : Md}
theorem mulOk_ok {a b : Int} (h : mulOk a b = true) : IntMulOk a b := by
  have h1 : a.natAbs.log2 + b.natAbs.log2 < big := of_decide_eq_true h
  have bt : ∀ x : Int, Builtin.Int.intBits x ≤ x.natAbs.log2 + 1 := fun x => by
    unfold Builtin.Int.intBits
    split <;> omega
  have ha := bt a
  have hb := bt b
  have el : bitsLine = 134217728 := by decide
  have eb : big = 100000000 := rfl
  intro z
  rw [Bool.and_eq_true] at z
  have z3 := of_decide_eq_true (show decide _ = true from z.2)
  rw [el] at z3
  omega
theorem opr_mul : OpR X (binaryOp .Mult) (rI (fun i j => mulOk i j = true) fun i j => .int (i * j)) := opI fun _ _ _ _ _ _ _ hc q => PyProof.Rows.mul_int q (mulOk_ok hc)
theorem opr_fdiv : OpR X (binaryOp .FloorDiv) (rI (fun i j => j ≠ 0 ∧ Builtin.divisionGoesByPylong i j = false) fun i j => .int (i.fdiv j)) := opI fun _ _ _ _ _ _ _ hc q => PyProof.Rows.floordiv_int hc.1 q (.inl hc.2)
def boOf : BO → Operator
  | .add => .Add | .sub => .Sub | .mul => .Mult | .fdiv => .FloorDiv | .mod => .Mod | .pow => .Pow | .shl => .LShift
theorem lineOk_le {n : Nat} (h : lineOk n = true) : n ≤ sizeLine := of_decide_eq_true h

theorem opr_bop (o : BO) : OpR X (binaryOp (boOf o)) (tB2 X.K cl (bop o)) := by
  intro pins s σ H x y v u Q I rx ry hh
  obtain ⟨μ, h, a, b, W, rh, ra, rb, pg⟩ := hh
  unfold bop at pg
  split at pg <;> try exact pg.elim
  · rw [Rl.int_iff] at ra rb
    exact op_add pins s σ H x y v u Q I rx ry ⟨_, _, ra, rb, pg.val rh (Rl.int_iff.mpr rfl)⟩
  · rw [Rl.int_iff] at ra rb
    exact op_sub pins s σ H x y v u Q I rx ry ⟨_, _, ra, rb, pg.val rh (Rl.int_iff.mpr rfl)⟩
  · rw [Rl.bl_iff] at ra rb
    exact op_subB pins s σ H x y v u Q I rx ry ⟨_, _, ra, rb, pg.val rh (Rl.int_iff.mpr rfl)⟩
  · rw [Rl.int_iff] at ra rb
    split at pg <;> try exact pg.elim
    exact opr_mul pins s σ H x y v u Q I rx ry ⟨_, _, ra, rb, by assumption, pg.val rh (Rl.int_iff.mpr rfl)⟩
  · rw [Rl.int_iff] at ra rb
    split at pg <;> try exact pg.elim
    exact opr_fdiv pins s σ H x y v u Q I rx ry ⟨_, _, ra, rb, by assumption, pg.val rh (Rl.int_iff.mpr rfl)⟩
  · rw [Rl.int_iff] at ra rb
    split at pg <;> try exact pg.elim
    exact op_modN pins s σ H x y v u Q I rx ry ⟨_, _, ra, rb, by assumption, pg.val rh (Rl.int_iff.mpr rfl)⟩
  · rw [Rl.int_iff] at ra rb
    split at pg <;> try exact pg.elim
    exact op_pow pins s σ H x y v u Q I rx ry ⟨_, _, ra, rb, by assumption, pg.val rh (Rl.int_iff.mpr rfl)⟩
  · rw [Rl.int_iff] at ra rb
    split at pg <;> try exact pg.elim
    exact op_shl pins s σ H x y v u Q I rx ry ⟨_, _, ra, rb, by assumption, pg.val rh (Rl.int_iff.mpr rfl)⟩
  · rw [Rl.str_iff] at ra rb
    split at pg <;> try exact pg.elim
    exact op_add_str pins s σ H x y v u Q I rx ry ⟨_, _, ra, rb, lineOk_le (by assumption), pg.val rh (Rl.str_iff.mpr rfl)⟩
  · obtain ⟨a1, vs, e1, s1, r1⟩ := Rl.tup_iff.mp ra
    obtain ⟨a2, ws, e2, s2, r2⟩ := Rl.tup_iff.mp rb
    split at pg <;> try exact pg.elim
    rename_i hl
    have hl := lineOk_le hl
    rw [r1.length, r2.length] at hl
    refine op_catA pins s σ H x y v u Q I rx ry ⟨a1, a2, vs, ws, e1, e2, s1, s2, hl, fun z => ?_, fun _ z => ?_, fun _ _ p np => pg.tup rh (r1.append r2) np⟩
    · subst z
      exact pg.val rh (Rl.tup_iff.mpr ⟨a2, ws, rfl, s2, by simpa using r1.append r2⟩)
    · subst z
      exact pg.val rh (Rl.tup_iff.mpr ⟨a1, vs, rfl, s1, by simpa using r1.append r2⟩)
  · split at pg <;> try exact pg.elim
    rename_i ex ey
    obtain ⟨a1, vs, e1, _, s1, r1⟩ := rh.lst ex ra
    obtain ⟨a2, ws, e2, _, s2, r2⟩ := rh.lst ey rb
    split at pg <;> try exact pg.elim
    rename_i hl
    have hl := lineOk_le hl
    rw [r1.length, r2.length] at hl
    exact op_cat pins s σ H x y v u Q I rx ry ⟨a1, a2, vs, ws, e1, e2, s1, s2, hl, fun p np => pg.lst rh (r1.append r2) np⟩
  · split at pg <;> try exact pg.elim
    rename_i ex
    obtain ⟨a1, vs, e1, _, s1, r1⟩ := rh.lst ex ra
    rw [Rl.int_iff] at rb
    split at pg <;> try exact pg.elim
    rename_i hl
    obtain ⟨h1, h2, h3⟩ := hl
    have h3 := lineOk_le h3
    rw [r1.length] at h3
    exact op_rep pins s σ H x y v u Q I rx ry ⟨a1, _, vs, e1, rb, s1, h1, h2, h3, fun p np => pg.lst rh (r1.rep _) np⟩
  · obtain ⟨a1, vs, e1, s1, r1⟩ := Rl.tup_iff.mp ra
    rw [Rl.int_iff] at rb
    split at pg <;> try exact pg.elim
    rename_i hl
    obtain ⟨h0, h1, h2, h3⟩ := hl
    rw [r1.length] at h3
    have hne : vs ≠ [] := fun z => h0 (by
      subst z
      exact List.eq_nil_of_length_eq_zero r1.length)
    rename_i k
    rcases (show k = 0 ∨ k = 1 ∨ 2 ≤ k by omega) with z | z | z
    · subst z
      exact op_repT0 pins s σ H x y v u Q I rx ry ⟨a1, vs, e1, rb, s1, hne, fun p np => pg.tup rh (r1.rep 0) np⟩
    · subst z
      exact op_repT1 pins s σ H x y v u Q I rx ry ⟨a1, vs, e1, rb, s1, by
        exact pg.val rh (Rl.tup_iff.mpr ⟨a1, vs, rfl, s1, by simpa using r1⟩)⟩
    · exact op_repT pins s σ H x y v u Q I rx ry ⟨a1, _, vs, e1, rb, s1, hne, z, h2, h3, fun p np => pg.tup rh (r1.rep _) np⟩

/-! ### data through the cells -/
/-- sys.modules is a dict, and no cell of ours -/
def SysOk (b : Heap) : Prop := ∃ (o : Obj) (es : Array DictEntry) (n : Nat), b.get? sysModules = some o ∧ o.data = .dict es n
theorem SysOk.ne {pins : List (Addr × Obj)} {s : Shared} {σ : L2.St} {H : Hp} {a : Addr} {o : Obj} {its : Array Value} {n : Nat} (sy : SysOk X.base) (I : Inv X pins σ H s) (h1 : s.heap.get? a = some o) (h2 : o.data = .seq its n) : a ≠ sysModules := fun z => by
  obtain ⟨oc, es, m, e1, e2⟩ := sy
  have e3 := I.bk _ _ e1
  rw [z, e3] at h1
  cases h1
  rw [e2] at h2
  cases h2
mutual
theorem rd_of {pins : List (Addr × Obj)} {s : Shared} {σ : L2.St} {H : Hp} {μ : List Addr} {rd : Nat → Option PyData} (sy : SysOk X.base) (I : Inv X pins σ H s) (hrd : ∀ n d v u, rd n = some d → Rl X.K cl H μ (.ref n) v → RelV v u → ∃ as, Reads s.heap u d as ∧ sysModules ∉ as) :
    ∀ (x : D) (d : PyData) (v : V) (u : Value), x.deepW rd = some d → Rl X.K cl H μ x v → RelV v u → ∃ as, Reads s.heap u d as ∧ sysModules ∉ as
  | .non, d, v, u, e, r, ru => by
    simp [D.deepW] at e; subst e
    rw [Rl.non_iff] at r; subst r
    cases (show u = Value.none from ru)
    exact ⟨[], .none, by simp⟩
  | .bl b, d, v, u, e, r, ru => by
    simp [D.deepW] at e; subst e
    rw [Rl.bl_iff] at r; subst r
    cases (show u = Value.bool b from ru)
    exact ⟨[], .bool b, by simp⟩
  | .int b, d, v, u, e, r, ru => by
    simp [D.deepW] at e; subst e
    rw [Rl.int_iff] at r; subst r
    obtain ⟨t, rfl⟩ := (show ∃ t, u = Value.int b t from ru)
    exact ⟨[], .int b t, by simp⟩
  | .str b, d, v, u, e, r, ru => by
    simp [D.deepW] at e; subst e
    rw [Rl.str_iff] at r; subst r
    obtain ⟨t, rfl⟩ := (show ∃ t, u = Value.str b t from ru)
    exact ⟨[], .str b t, by simp⟩
  | .tup xs, d, v, u, e, r, ru => by
    simp only [D.deepW] at e
    obtain ⟨a, vs, rfl, s1, r⟩ := Rl.tup_iff.mp r
    cases (show u = Value.ref a from ru)
    split at e
    · rename_i ys ey
      cases e
      obtain ⟨its, rv, ⟨o, h1, h2, n, h3⟩, _⟩ := I.tuple s1
      obtain ⟨as, q, ns⟩ := rds_of sy I hrd xs ys vs its ey r rv
      exact ⟨as, .tuple h1 h2 h3 q, ns⟩
    · cases e
  | .fz xs, d, v, u, e, r, ru => by
    simp only [D.deepW] at e
    obtain ⟨a, vs, rfl, s1, r⟩ := Rl.fz_iff.mp r
    cases (show u = Value.ref a from ru)
    split at e
    · rename_i ys ey
      cases e
      obtain ⟨its, rv, ⟨o, n, h1, h2, _, h3⟩, _⟩ := I.list s1.l
      obtain ⟨as, q, ns⟩ := rds_of sy I hrd xs ys vs its ey r rv
      exact ⟨a :: as, .list h1 h2 h3 q, fun m => (List.mem_cons.mp m).elim (fun z => sy.ne I h1 h3 z.symm) ns⟩
    · cases e
  | .ref n, d, v, u, e, r, ru => hrd n d v u (by simpa [D.deepW] using e) r ru
  | .ty _, _, _, _, e, _, _ => by simp [D.deepW] at e
  | .cls _, _, _, _, e, _, _ => by simp [D.deepW] at e
  | .rng _ _, _, _, _, e, _, _ => by simp [D.deepW] at e
theorem rds_of {pins : List (Addr × Obj)} {s : Shared} {σ : L2.St} {H : Hp} {μ : List Addr} {rd : Nat → Option PyData} (sy : SysOk X.base) (I : Inv X pins σ H s) (hrd : ∀ n d v u, rd n = some d → Rl X.K cl H μ (.ref n) v → RelV v u → ∃ as, Reads s.heap u d as ∧ sysModules ∉ as) :
    ∀ (xs : List D) (ds : List PyData) (vs : List V) (us : List Value), D.deepsW rd xs = some ds → Rls X.K cl H μ xs vs → Vals vs us → ∃ as, ReadsAll s.heap us ds as ∧ sysModules ∉ as
  | [], ds, vs, us, e, r, ru => by
    simp [D.deepsW] at e; subst e
    rw [Rls.nil] at r; subst r
    cases ru
    exact ⟨[], .nil, by simp⟩
  | x :: xs, ds, vs, us, e, r, ru => by
    simp only [D.deepsW] at e
    obtain ⟨v, vr, rfl, r1, r2⟩ := Rls.cons.mp r
    cases ru with
    | cons u1 u2 =>
      split at e
      · rename_i y ys e1 e2
        cases e
        obtain ⟨as, q1, n1⟩ := rd_of sy I hrd x y v _ e1 r1 u1
        obtain ⟨bs, q2, n2⟩ := rds_of sy I hrd xs ys vr _ e2 r2 u2
        exact ⟨as ++ bs, .cons q1 q2, by simp [n1, n2]⟩
      · cases e
end
theorem deepR_reads {pins : List (Addr × Obj)} {s : Shared} {σ : L2.St} {H : Hp} {μ : List Addr} {h : Hh} (sy : SysOk X.base) (I : Inv X pins σ H s) (rh : RlH X.K cl H μ h) :
    ∀ (m n : Nat) (d : PyData) (v : V) (u : Value), deepR h m n = some d → Rl X.K cl H μ (.ref n) v → RelV v u → ∃ as, Reads s.heap u d as ∧ sysModules ∉ as := by
  intro m
  induction m with
  | zero => intro n d v u e; simp [deepR] at e
  | succ m ih =>
    intro n d v u e r ru
    simp only [deepR] at e
    split at e
    · rename_i xs ex
      split at e
      · rename_i ys ey
        cases e
        obtain ⟨a, vs, rfl, _, s1, r⟩ := rh.lst ex r
        cases (show u = Value.ref a from ru)
        obtain ⟨its, rv, ⟨o, n, h1, h2, _, h3⟩, _⟩ := I.list (.of s1)
        obtain ⟨as, q, ns⟩ := rds_of sy I (fun n d v u => ih n d v u) xs ys vs its ey r rv
        exact ⟨a :: as, .list h1 h2 h3 q, fun m => (List.mem_cons.mp m).elim (fun z => sy.ne I h1 h3 z.symm) ns⟩
      · cases e
    · rename_i ex
      cases e
      obtain ⟨a, rfl, m⟩ := Rl.ref_iff.mp r
      obtain ⟨_, e1⟩ := rh.at_ n _ a ex m
      cases (show u = Value.ref a from ru)
      obtain ⟨_, ns, vs, kv, o, es, ep, h1, h2, h3, h4, h5⟩ := (show ObjOk X.prog X.w H s.heap a (.dK []) from I.hok a _ e1)
      cases kv
      have e0 : es.toList = [] := by
        obtain ⟨h6, _⟩ := h5
        generalize es.toList = l at h6
        cases h6; rfl
      have ea : es = #[] := by
        apply Array.ext'
        simpa using e0
      subst ea
      exact ⟨a :: [] ++ [], .dict h1 h2.1 h3 .nil .nil, fun m => by
        simp only [List.append_nil, List.mem_singleton] at m
        rw [← m] at ns
        simp at ns⟩
    · cases e
theorem deep_reads {pins : List (Addr × Obj)} {s : Shared} {σ : L2.St} {H : Hp} {μ : List Addr} {h : Hh} {x : D} {d : PyData} {v : V} {u : Value} (sy : SysOk X.base) (I : Inv X pins σ H s) (rh : RlH X.K cl H μ h) (e : x.deep h = some d) (r : Rl X.K cl H μ x v) (ru : RelV v u) : ∃ as, Reads s.heap u d as ∧ sysModules ∉ as :=
  rd_of sy I (deepR_reads sy I rh 8) x d v u e r ru

/-! ### comparisons -/
/-- lists of unlike lengths -/
theorem lenNe_at {pins : List (Addr × Obj)} {s : Shared} {σ : L2.St} {H : Hp} {μ : List Addr} {h : Hh} {a b : D} {v u : V} {v' u' : Value} {bb : Bool} (I : Inv X pins σ H s) (rh : RlH X.K cl H μ h) (ra : Rl X.K cl H μ a v) (rb : Rl X.K cl H μ b u) (rx : RelV v v') (ry : RelV u u') (e : lenNe h a b = some bb) :
    bb = false ∧ ∃ (l m : Addr) (xs ys : Array Value), v' = .ref l ∧ u' = .ref m ∧ s.heap.IsList l xs ∧ s.heap.IsList m ys ∧ (xs.size != ys.size) = true := by
  unfold lenNe at e
  split at e
  · split at e
    · rename_i xs ys e1 e2
      split at e
      · rename_i ne
        cases e
        obtain ⟨p, ws, rfl, _, s1, r1⟩ := rh.lst e1 ra
        obtain ⟨p2, ws2, rfl, _, s2, r2⟩ := rh.lst e2 rb
        cases (show v' = Value.ref p from rx)
        cases (show u' = Value.ref p2 from ry)
        obtain ⟨its, q1, ht, _⟩ := I.list (.of s1)
        obtain ⟨its2, q2, ht2, _⟩ := I.list (.of s2)
        refine ⟨rfl, p, p2, its.toArray, its2.toArray, rfl, rfl, ht.isList, ht2.isList, ?_⟩
        have l1 := r1.length
        have l2 := r2.length
        have l3 := q1.length
        have l4 := q2.length
        simp only [List.size_toArray, bne_iff_ne, ne_eq]
        omega
      · cases e
    · cases e
  · cases e
theorem opr_eqD (hu : X.A.units + 65 < cLine) (sy : SysOk X.base) : OpR X (compareOp .Eq) (tB2 X.K cl fun x y h => match eqD h x y with | some b => .ok (.bl b) h | none => .bad) := by
  intro pins s σ H x y v u Q I rx ry hh
  obtain ⟨μ, h, a, b, W, rh, ra, rb, pg⟩ := hh
  dsimp only at pg
  split at pg <;> try exact pg.elim
  rename_i bb eb
  have q : Q (.bl bb) H := pg.val rh (Rl.bl_iff.mpr rfl)
  unfold eqD at eb
  split at eb
  · cases eb
    rw [Rl.int_iff] at ra rb
    subst ra rb
    exact op_eq pins s σ H _ _ v u Q I rx ry ⟨rfl, by simpa using q⟩
  · cases eb
    rw [Rl.str_iff] at ra rb
    subst ra rb
    exact op_eq pins s σ H _ _ v u Q I rx ry ⟨rfl, by simpa using q⟩
  · cases eb
    rw [Rl.bl_iff] at ra rb
    subst ra rb
    exact op_eq pins s σ H _ _ v u Q I rx ry ⟨rfl, by simpa using q⟩
  · split at eb
    · rename_i d e hd he
      split at eb
      · rename_i sh
        cases eb
        obtain ⟨as, r1, _⟩ := deep_reads sy I rh hd ra rx
        obtain ⟨bs, r2, _⟩ := deep_reads sy I rh he rb ry
        exact SeqAt.compareEq_shaped r1 r2 sh.1 sh.2 (by omega) ⟨.bl _, H, I, rfl, q⟩
      · obtain ⟨rfl, l, m, xs, ys, rfl, rfl, h1, h2, h3⟩ := lenNe_at I rh ra rb rx ry eb
        exact SeqAt.eq_list_lengthsAt h1 h2 h3 (by omega) ⟨.bl _, H, I, rfl, q⟩
    · obtain ⟨rfl, l, m, xs, ys, rfl, rfl, h1, h2, h3⟩ := lenNe_at I rh ra rb rx ry eb
      exact SeqAt.eq_list_lengthsAt h1 h2 h3 (by omega) ⟨.bl _, H, I, rfl, q⟩
theorem opr_neD (hu : X.A.units + 65 < cLine) (sy : SysOk X.base) : OpR X (compareOp .NotEq) (tB2 X.K cl fun x y h => match eqD h x y with | some b => .ok (.bl (!b)) h | none => .bad) := by
  intro pins s σ H x y v u Q I rx ry hh
  obtain ⟨μ, h, a, b, W, rh, ra, rb, pg⟩ := hh
  dsimp only at pg
  split at pg <;> try exact pg.elim
  rename_i bb eb
  have q : Q (.bl (!bb)) H := pg.val rh (Rl.bl_iff.mpr rfl)
  unfold eqD at eb
  split at eb
  · cases eb
    rw [Rl.int_iff] at ra rb
    subst ra rb
    exact op_ne pins s σ H _ _ v u Q I rx ry ⟨rfl, by simpa using q⟩
  · cases eb
    rw [Rl.str_iff] at ra rb
    subst ra rb
    exact op_ne pins s σ H _ _ v u Q I rx ry ⟨rfl, by simpa using q⟩
  · cases eb
    rw [Rl.bl_iff] at ra rb
    subst ra rb
    exact op_ne pins s σ H _ _ v u Q I rx ry ⟨rfl, by simpa using q⟩
  · split at eb
    · rename_i d e hd he
      split at eb
      · rename_i sh
        cases eb
        obtain ⟨as, r1, _⟩ := deep_reads sy I rh hd ra rx
        obtain ⟨bs, r2, _⟩ := deep_reads sy I rh he rb ry
        exact SeqAt.compareNe_shaped r1 r2 sh.1 sh.2 (by omega) ⟨.bl _, H, I, rfl, q⟩
      · obtain ⟨rfl, l, m, xs, ys, rfl, rfl, h1, h2, h3⟩ := lenNe_at I rh ra rb rx ry eb
        exact SeqAt.RcNeAt.lists_lengths h1 h2 h3 (by omega) _ _ _ _ ⟨.bl _, H, I, rfl, q⟩
    · obtain ⟨rfl, l, m, xs, ys, rfl, rfl, h1, h2, h3⟩ := lenNe_at I rh ra rb rx ry eb
      exact SeqAt.RcNeAt.lists_lengths h1 h2 h3 (by omega) _ _ _ _ ⟨.bl _, H, I, rfl, q⟩
theorem isNon_v {K : PySem.W.Frag} {H : Hp} {μ : List Addr} {d : D} {v : V} (r : Rl K cl H μ d v) : decide (v = .non) = isNon d := by
  cases d with
  | non => rw [Rl.non_iff] at r; subst r; rfl
  | bl b => rw [Rl.bl_iff] at r; subst r; rfl
  | int b => rw [Rl.int_iff] at r; subst r; rfl
  | str b => rw [Rl.str_iff] at r; subst r; rfl
  | tup b => obtain ⟨a, vs, rfl, _⟩ := Rl.tup_iff.mp r; rfl
  | fz b => obtain ⟨a, vs, rfl, _⟩ := Rl.fz_iff.mp r; rfl
  | ref b => obtain ⟨a, rfl, _⟩ := Rl.ref_iff.mp r; rfl
  | ty n => simp only [Rl] at r; subst r; rfl
  | cls k => simp only [Rl] at r; obtain ⟨a, rfl, _⟩ := r; rfl
  | rng _ _ => simp only [Rl] at r; obtain ⟨a, rfl, _⟩ := r; rfl
theorem isNon_eq {d : D} (h : isNon d = true) : d = .non := by
  cases d <;> simp [isNon] at h ⊢
theorem opr_cmp (hu : X.A.units + 65 < cLine) (sy : SysOk X.base) (o : CmpOp) : OpR X (compareOp o) (tB2 X.K cl (cmpD o)) := by
  intro pins s σ H x y v u Q I rx ry hh
  cases o with
  | Eq => exact opr_eqD hu sy pins s σ H x y v u Q I rx ry hh
  | NotEq => exact opr_neD hu sy pins s σ H x y v u Q I rx ry hh
  | Is =>
    obtain ⟨μ, h, a, b, W, rh, ra, rb, pg⟩ := hh
    simp only [cmpD] at pg
    split at pg
    · split at pg <;> try exact pg.elim
      rw [Rl.bl_iff] at ra rb
      exact op_isBl pins s σ H _ _ v u Q I rx ry ⟨_, _, ra, rb, pg.val rh (Rl.bl_iff.mpr rfl)⟩
    split at pg <;> try exact pg.elim
    rename_i hn
    have e := isNon_eq hn
    subst e
    rw [Rl.non_iff] at rb
    subst rb
    exact op_isN pins s σ H _ _ v u Q I rx ry ⟨rfl, by rw [isNon_v ra]; exact pg.val rh (Rl.bl_iff.mpr rfl)⟩
  | IsNot =>
    obtain ⟨μ, h, a, b, W, rh, ra, rb, pg⟩ := hh
    simp only [cmpD] at pg
    split at pg <;> try exact pg.elim
    rename_i hn
    have e := isNon_eq hn
    subst e
    rw [Rl.non_iff] at rb
    subst rb
    exact op_notN pins s σ H _ _ v u Q I rx ry ⟨rfl, by rw [isNon_v ra]; exact pg.val rh (Rl.bl_iff.mpr rfl)⟩
  | Lt =>
    obtain ⟨μ, h, a, b, W, rh, ra, rb, pg⟩ := hh
    simp only [cmpD] at pg
    split at pg <;> try exact pg.elim
    · rw [Rl.int_iff] at ra rb
      exact op_lt pins s σ H _ _ v u Q I rx ry ⟨_, _, ra, rb, pg.val rh (Rl.bl_iff.mpr rfl)⟩
    · obtain ⟨a1, vs, e1, s1, r1⟩ := Rl.tup_iff.mp ra
      obtain ⟨a2, ws, e2, s2, r2⟩ := Rl.tup_iff.mp rb
      split at pg <;> try exact pg.elim
      rename_i ns ms en em
      rw [intsOf_map en, Rls.ints] at r1
      rw [intsOf_map em, Rls.ints] at r2
      subst r1 r2
      exact op_ltT (by omega) pins s σ H _ _ v u Q I rx ry ⟨a1, a2, ns, ms, e1, e2, s1, s2, pg.val rh (Rl.bl_iff.mpr rfl)⟩
  | LtE =>
    obtain ⟨μ, h, a, b, W, rh, ra, rb, pg⟩ := hh
    simp only [cmpD] at pg
    split at pg <;> try exact pg.elim
    rw [Rl.int_iff] at ra rb
    exact op_le pins s σ H _ _ v u Q I rx ry ⟨_, _, ra, rb, pg.val rh (Rl.bl_iff.mpr rfl)⟩
  | Gt =>
    obtain ⟨μ, h, a, b, W, rh, ra, rb, pg⟩ := hh
    simp only [cmpD] at pg
    split at pg <;> try exact pg.elim
    rw [Rl.int_iff] at ra rb
    exact op_gt pins s σ H _ _ v u Q I rx ry ⟨_, _, ra, rb, pg.val rh (Rl.bl_iff.mpr rfl)⟩
  | GtE =>
    obtain ⟨μ, h, a, b, W, rh, ra, rb, pg⟩ := hh
    simp only [cmpD] at pg
    split at pg <;> try exact pg.elim
    rw [Rl.int_iff] at ra rb
    exact op_ge pins s σ H _ _ v u Q I rx ry ⟨_, _, ra, rb, pg.val rh (Rl.bl_iff.mpr rfl)⟩
  | In =>
    obtain ⟨μ, h, a, b, W, rh, ra, rb, pg⟩ := hh
    simp only [cmpD] at pg
    split at pg
    · rename_i d ds hd he
      split at pg <;> try exact pg.elim
      rename_i sh
      obtain ⟨as, r1, _⟩ := deep_reads sy I rh hd ra rx
      obtain ⟨bs, r2, _⟩ := deep_reads sy I rh he rb ry
      exact SeqAt.in_list_reads r2 r1 (SeqAt.canLay_of_shaped sh.2) (SeqAt.canLay_of_shaped sh.1) (room_in_shaped sh.1 hu) ⟨.bl _, H, I, rfl, pg.val rh (Rl.bl_iff.mpr rfl)⟩
    · rename_i d ds hd he
      split at pg <;> try exact pg.elim
      rename_i sh
      obtain ⟨as, r1, _⟩ := deep_reads sy I rh hd ra rx
      obtain ⟨bs, r2, _⟩ := deep_reads sy I rh he rb ry
      exact SeqAt.in_tuple_reads r2 r1 (SeqAt.canLay_of_shaped sh.2) (SeqAt.canLay_of_shaped sh.1) (room_in_shaped sh.1 hu) ⟨.bl _, H, I, rfl, pg.val rh (Rl.bl_iff.mpr rfl)⟩
    · exact pg.elim
  | NotIn =>
    obtain ⟨μ, h, a, b, W, rh, ra, rb, pg⟩ := hh
    simp only [cmpD] at pg
    split at pg
    · rename_i d ds hd he
      split at pg <;> try exact pg.elim
      rename_i sh
      obtain ⟨as, r1, _⟩ := deep_reads sy I rh hd ra rx
      obtain ⟨bs, r2, _⟩ := deep_reads sy I rh he rb ry
      exact SeqAt.notIn_list_reads r2 r1 (SeqAt.canLay_of_shaped sh.2) (SeqAt.canLay_of_shaped sh.1) (room_in_shaped sh.1 hu) ⟨.bl _, H, I, rfl, pg.val rh (Rl.bl_iff.mpr rfl)⟩
    · rename_i d ds hd he
      split at pg <;> try exact pg.elim
      rename_i sh
      obtain ⟨as, r1, _⟩ := deep_reads sy I rh hd ra rx
      obtain ⟨bs, r2, _⟩ := deep_reads sy I rh he rb ry
      exact SeqAt.notIn_tuple_reads r2 r1 (SeqAt.canLay_of_shaped sh.2) (SeqAt.canLay_of_shaped sh.1) (room_in_shaped sh.1 hu) ⟨.bl _, H, I, rfl, pg.val rh (Rl.bl_iff.mpr rfl)⟩
    · exact pg.elim

/-! ### subscripts, slices -/
theorem atI_rls {K : PySem.W.Frag} {H : Hp} {μ : List Addr} {xs : List D} {vs : List V} {i : Int} {d : D} (r : Rls K cl H μ xs vs) (e : atI xs i = some d) : ∃ v, atI vs i = some v ∧ Rl K cl H μ d v := by
  unfold atI at e ⊢
  rw [← r.length]
  cases q : ixN xs.length i with
  | none => rw [q] at e; cases e
  | some j =>
    rw [q] at e
    exact r.get e
theorem ixr : IxR X (tB2 X.K cl ixD) := by
  intro va sc pins s σ H x y v u Q I rx ry hh hsub
  obtain ⟨μ, h, a, b, W, rh, ra, rb, pg⟩ := hh
  unfold ixD at pg
  split at pg <;> try exact pg.elim
  · obtain ⟨a1, vs, e1, s1, r1⟩ := Rl.tup_iff.mp ra
    rw [Rl.int_iff] at rb
    split at pg <;> try exact pg.elim
    rename_i d ed
    obtain ⟨w, ew, rw'⟩ := atI_rls r1 ed
    exact ix_tup va sc pins s σ H _ _ v u Q I rx ry ⟨a1, vs, _, w, e1, rb, s1, ew, pg.val rh rw'⟩ hsub
  · obtain ⟨a1, vs, e1, s1, r1⟩ := Rl.fz_iff.mp ra
    rw [Rl.int_iff] at rb
    split at pg <;> try exact pg.elim
    rename_i d ed
    obtain ⟨w, ew, rw'⟩ := atI_rls r1 ed
    exact ix_list va sc pins s σ H _ _ v u Q I rx ry ⟨a1, vs, _, w, e1, rb, s1.l, ew, pg.val rh rw'⟩ hsub
  · rw [Rl.int_iff] at rb
    split at pg <;> try exact pg.elim
    rename_i xs ex
    obtain ⟨a1, vs, e1, _, s1, r1⟩ := rh.lst (listAt_eq ex) ra
    split at pg <;> try exact pg.elim
    rename_i d ed
    obtain ⟨w, ew, rw'⟩ := atI_rls r1 ed
    exact ix_list va sc pins s σ H _ _ v u Q I rx ry ⟨a1, vs, _, w, e1, rb, .of s1, ew, pg.val rh rw'⟩ hsub
def tSlD (K : PySem.W.Frag) (cl : Md) : V → Option Int → Option Int → Hp → VK → Prop := fun x lo hi H Q => ∃ μ h a W, RlH K cl H μ h ∧ Rl K cl H μ a x ∧ Pg K cl μ H (slD a lo hi h) (VP K cl Q) W
theorem cut_rls {K : PySem.W.Frag} {H : Hp} {μ : List Addr} {xs : List D} {vs : List V} (r : Rls K cl H μ xs vs) (lo hi : Option Int) : Rls K cl H μ (cutD xs lo hi) (cutV vs lo hi) := by
  unfold cutD cutV
  rw [← r.length]
  exact (r.drop _).take _
theorem slr : SlR X (tSlD X.K cl) := by
  intro pins s σ H x v vl vu lo hi sl Q I rx hs pl pu hh
  obtain ⟨μ, h, a, W, rh, ra, pg⟩ := hh
  unfold slD at pg
  split at pg <;> try exact pg.elim
  · obtain ⟨a1, vs, e1, s1, r1⟩ := Rl.tup_iff.mp ra
    have rc := cut_rls r1 lo hi
    refine sl_tupA pins s σ H x v vl vu lo hi sl Q I rx hs pl pu ⟨a1, vs, e1, s1, fun z => pg.val rh (Rl.tup_iff.mpr ⟨a1, vs, rfl, s1, ?_⟩), fun _ p np => pg.tup rh rc np⟩
    have e : cutV vs lo hi = vs := by
      unfold cutV
      rw [z.1, z.2]
      simp
    rw [e] at rc
    exact rc
  · obtain ⟨a1, vs, e1, s1, r1⟩ := Rl.fz_iff.mp ra
    exact sl_list pins s σ H x v vl vu lo hi sl Q I rx hs pl pu ⟨a1, vs, e1, s1.l, fun p np => pg.lst rh (cut_rls r1 lo hi) np⟩
  · split at pg <;> try exact pg.elim
    rename_i xs ex
    obtain ⟨a1, vs, e1, _, s1, r1⟩ := rh.lst (listAt_eq ex) ra
    exact sl_list pins s σ H x v vl vu lo hi sl Q I rx hs pl pu ⟨a1, vs, e1, .of s1, fun p np => pg.lst rh (cut_rls r1 lo hi) np⟩
end
end HS

/-! Built-in functions. -/
namespace HS
open PySem L2 PyProof.Rows

theorem maxOf_mem : ∀ {ns : List Int}, ns ≠ [] → maxOf ns ∈ ns ∧ ∀ y, y ∈ ns → y ≤ maxOf ns
  | [], h => absurd rfl h
  | [x], _ => by simp [maxOf]
  | x :: y :: r, _ => by
    have ih := maxOf_mem (ns := y :: r) (by simp)
    simp only [maxOf]
    by_cases c : maxOf (y :: r) > x
    · rw [if_pos c]
      refine ⟨List.mem_cons_of_mem _ ih.1, fun z hz => ?_⟩
      rcases List.mem_cons.mp hz with rfl | hz
      · omega
      · exact ih.2 z hz
    · rw [if_neg c]
      refine ⟨List.mem_cons_self, fun z hz => ?_⟩
      rcases List.mem_cons.mp hz with rfl | hz
      · omega
      · have := ih.2 z hz
        omega
theorem minOf_mem : ∀ {ns : List Int}, ns ≠ [] → minOf ns ∈ ns ∧ ∀ y, y ∈ ns → minOf ns ≤ y
  | [], h => absurd rfl h
  | [x], _ => by simp [minOf]
  | x :: y :: r, _ => by
    have ih := minOf_mem (ns := y :: r) (by simp)
    simp only [minOf]
    by_cases c : minOf (y :: r) < x
    · rw [if_pos c]
      refine ⟨List.mem_cons_of_mem _ ih.1, fun z hz => ?_⟩
      rcases List.mem_cons.mp hz with rfl | hz
      · omega
      · exact ih.2 z hz
    · rw [if_neg c]
      refine ⟨List.mem_cons_self, fun z hz => ?_⟩
      rcases List.mem_cons.mp hz with rfl | hz
      · omega
      · have := ih.2 z hz
        omega

/-- a call by data -/
def tBL (K : PySem.W.Frag) (cl : Md) (m : List D → Hh → R D) : List V → Hp → VK → Prop := fun vs H Q => ∃ μ h ds W, RlH K cl H μ h ∧ Rls K cl H μ ds vs ∧ Pg K cl μ H (m ds h) (VP K cl Q) W
/-- the built-in function -/
def bfV : BF → Value
  | .len => .builtin "len" | .abs => .builtin "abs" | .int => .type "int" | .divmod => .builtin "divmod" | .gcd => .builtin "math.gcd" | .tuple => .type "tuple" | .list => .type "list"
  | .sum => .builtin "sum" | .max => .builtin "max" | .min => .builtin "min" | .all => .builtin "all" | .any => .builtin "any" | .range => .type "range" | .repr => .builtin "repr" | .sorted => .builtin "sorted" | .comb => .builtin "math.comb"
section
variable {X : Cx} {cl : Md}
theorem Rls.one_iff {K : PySem.W.Frag} {H : Hp} {μ : List Addr} {d : D} {vs : List V} : Rls K cl H μ [d] vs ↔ ∃ v, vs = [v] ∧ Rl K cl H μ d v := by
  rw [Rls.cons]
  constructor
  · rintro ⟨v, r, rfl, h1, h2⟩
    rw [Rls.nil] at h2; subst h2
    exact ⟨v, rfl, h1⟩
  · rintro ⟨v, rfl, h⟩
    exact ⟨v, [], rfl, h, Rls.nil.mpr rfl⟩
theorem Rls.two_iff {K : PySem.W.Frag} {H : Hp} {μ : List Addr} {d e : D} {vs : List V} : Rls K cl H μ [d, e] vs ↔ ∃ v u, vs = [v, u] ∧ Rl K cl H μ d v ∧ Rl K cl H μ e u := by
  rw [Rls.cons]
  constructor
  · rintro ⟨v, r, rfl, h1, h2⟩
    obtain ⟨u, rfl, h3⟩ := Rls.one_iff.mp h2
    exact ⟨v, u, rfl, h1, h3⟩
  · rintro ⟨v, u, rfl, h, g⟩
    exact ⟨v, [u], rfl, h, Rls.one_iff.mpr ⟨u, rfl, g⟩⟩
theorem repr_reads {pins : List (Addr × Obj)} {s : Shared} {σ : L2.St} {H : Hp} {Q : VK} {u : Value} {d : PyData} {as : List Addr} (I : Inv X pins σ H s) (hg : X.A.guards = some []) (hu : X.A.units + 65 < cLine) (r : Reads s.heap u d as) (ns : sysModules ∉ as)
    (h1 : d.showable = true) (h2 : d.shown.length ≤ sizeLine) (h3 : d.depth ≤ 60) (q : Q (.str d.shown) H) : wpAny (model X.prog X.w) X.A (call (.builtin "repr") [u]) (EP X pins σ Q) X.xe s := by
  cases u with
  | ref a => exact repr_of_reads' r h1 (fun _ => ns) hg (by omega) (fun _ _ e => e) (fun h' t tk hk => ⟨.str d.shown, H, I.kept hk, ⟨t, rfl⟩, q⟩) h2
  | none => cases r; exact PySem.P.repr_of_none ⟨.str _, H, I.tok _, ⟨_, rfl⟩, by simpa [PyData.shown] using q⟩
  | bool b => cases r; exact PySem.P.repr_of_bool ⟨.str _, H, I.tok _, ⟨_, rfl⟩, by simpa [PyData.shown] using q⟩
  | int i t =>
    cases r
    exact PySem.P.repr_of_int (by simpa [PyData.showable] using h1) ⟨.str _, H, I.tok _, ⟨_, rfl⟩, by simpa [PyData.shown] using q⟩
  | str x t =>
    cases r
    exact PySem.P.repr_of_str ⟨.str _, H, I.tok _, ⟨_, rfl⟩, by simpa [PyData.shown] using q⟩ (by simpa [PyData.shown] using h2)
  | _ => cases r

theorem Rl.rng_iff {K : PySem.W.Frag} {H : Hp} {μ : List Addr} {lo hi : Int} {v : V} : Rl K cl H μ (.rng lo hi) v ↔ ∃ a, v = .ref a ∧ H a = some (.rng lo hi) := by simp [Rl]
/-- sum(t), min(t) of a tuple of ints -/
theorem cr_sumT (hc : X.calm = true) : CallR X (.builtin "sum") (fun vs H Q => ∃ (a : Addr) (ns : List Int), vs = [V.ref a] ∧ SqT X.K H a (ns.map V.int) ∧ Q (.int ns.sum) H) := by
  intro pins s σ H vs us Q I r h
  obtain ⟨a, ns, rfl, hs, q⟩ := h
  obtain ⟨its, rv, hl, _⟩ := I.tuple hs
  obtain ⟨u, rfl, ru⟩ := vals1 r
  cases ru
  have hi := rv.ints
  obtain ⟨xs, e⟩ := hi.allInts.items
  have hn : numsOf (intItems xs).toList = ns := by rw [← e]; exact hi.numsOf
  rw [nums_intItems] at hn
  rw [e] at hl
  refine PySem.W.ktm_sumG (I.ok.hd hc) (show s.heap.IsTuple a (intItems xs) from hl) fun h' tk t' hk => ?_
  refine ⟨.int ns.sum, H, I.kept hk, ⟨t', ?_⟩, q⟩
  rw [preSum_eq, List.take_of_length_le (by simp), hn]
theorem cr_minT (hc : X.calm = true) (hu : X.A.units + 65 < cLine) : CallR X (.builtin "min") (fun vs H Q => ∃ (a : Addr) (n : Int) (ns : List Int), vs = [V.ref a] ∧ SqT X.K H a ((n :: ns).map V.int) ∧ Q (.int (ns.foldl min n)) H) := by
  intro pins s σ H vs us Q I r h
  obtain ⟨a, n, ns, rfl, hs, q⟩ := h
  obtain ⟨its, rv, hl, _⟩ := I.tuple hs
  obtain ⟨u, rfl, ru⟩ := vals1 r
  cases ru
  have hr : ReadsAll s.heap its.toArray.toList (.int n :: ns.map PyData.int) [] := by
    have := ints_reads (h := s.heap) rv
    simpa using this
  refine PySem.W.min_tuple_data (I.ok.hd hc) (show s.heap.IsTuple a its.toArray from hl) hr ?_ ?_ fun i v h' tk bs e rd hk => ?_
  · have f : ∀ d, d ∈ (.int n :: ns.map PyData.int) → ∃ i, d = PyData.int i := fun d hd => by
      rcases List.mem_cons.mp hd with rfl | hd
      · exact ⟨_, rfl⟩
      · obtain ⟨i, _, rfl⟩ := List.mem_map.mp hd
        exact ⟨i, rfl⟩
    refine ⟨fun d hd d' hd' => ?_, fun d hd => ?_⟩
    · obtain ⟨i, rfl⟩ := f d hd
      obtain ⟨j, rfl⟩ := f d' hd'
      simp [PySem.W.alike]
    · obtain ⟨i, rfl⟩ := f d hd
      exact fun z => nomatch z
  · have := PySem.W.depth_ints (n :: ns)
    rw [List.map_cons] at this
    rw [this]
    omega
  · rw [PySem.W.minD_ints] at rd
    cases rd with
    | int _ t => exact ⟨.int _, H, I.kept hk, ⟨t, rfl⟩, q⟩
theorem cr_range1 : CallR X (.type "range") (fun vs H Q => ∃ j, vs = [V.int j] ∧ ∀ p, H p = none → Q (.ref p) (upd H p (.rng 0 j))) := by
  intro pins s σ H vs us Q I r h
  obtain ⟨j, rfl, q⟩ := h
  obtain ⟨u1, rfl, ri⟩ := vals1 r
  obtain ⟨t, rfl⟩ := ri
  refine call_range_1 ⟨.ref s.heap.objs.size, upd H s.heap.objs.size (.rng 0 j), I.laid (t' := _) (fun b o e => Heap.get?_push_of_some _ e) (Nat.le_refl _) ?_, rfl, q _ (I.hok.fresh (Nat.le_refl _))⟩
  exact ⟨_, t, _, Heap.get?_push_size _ rfl⟩
theorem each_zip {K : PySem.W.Frag} {H : Hp} {μ : List Addr} : ∀ {xs : List D} {ws : List V} {its : List Value}, Rls K cl H μ xs ws → Vals ws its →
    PySem.W.EachIs (fun v (b : D × V) => RelV b.2 v ∧ Rl K cl H μ b.1 b.2) its (xs.zip ws)
  | [], ws, its, r, rv => by
    rw [Rls.nil] at r; subst r
    cases rv
    exact .nil
  | x :: xs, ws, its, r, rv => by
    obtain ⟨v, vr, rfl, r1, r2⟩ := Rls.cons.mp r
    cases rv with
    | cons u1 u2 => exact .cons ⟨u1, r1⟩ (each_zip r2 u2)
theorem each_back {K : PySem.W.Frag} {H : Hp} {μ : List Addr} : ∀ {its : List Value} {bs : List (D × V)}, PySem.W.EachIs (fun v (b : D × V) => RelV b.2 v ∧ Rl K cl H μ b.1 b.2) its bs →
    Vals (bs.map (·.2)) its ∧ Rls K cl H μ (bs.map (·.1)) (bs.map (·.2))
  | _, _, .nil => ⟨.nil, by rw [List.map_nil, List.map_nil, Rls.nil]⟩
  | _, _, .cons h t => by
    obtain ⟨a, b⟩ := each_back t
    exact ⟨.cons h.1 a, Rls.cons.mpr ⟨_, _, rfl, h.2, b⟩⟩
theorem each_deep {pins : List (Addr × Obj)} {s : Shared} {σ : L2.St} {H : Hp} {μ : List Addr} {h : Hh} (sy : SysOk X.base) (I : Inv X pins σ H s) (rh : RlH X.K cl H μ h) :
    ∀ {xs : List D} {ws : List V} {its : List Value} {ds : List PyData}, D.deepsW (deepR h 8) xs = some ds → Rls X.K cl H μ xs ws → Vals ws its →
    PySem.W.EachIs (fun v (b : D × V) => ∃ as, Reads s.heap v ((b.1.deep h).getD .none) as) its (xs.zip ws) ∧ (xs.zip ws).map (fun b => (b.1.deep h).getD .none) = ds
  | [], ws, its, ds, e, r, rv => by
    rw [Rls.nil] at r; subst r
    cases rv
    simp [D.deepsW] at e; subst e
    exact ⟨.nil, rfl⟩
  | x :: xs, ws, its, ds, e, r, rv => by
    obtain ⟨v, vr, rfl, r1, r2⟩ := Rls.cons.mp r
    simp only [D.deepsW] at e
    split at e
    · rename_i y ys e1 e2
      cases e
      cases rv with
      | cons u1 u2 =>
        obtain ⟨a, b⟩ := each_deep sy I rh e2 r2 u2
        have e1' : x.deep h = some y := e1
        obtain ⟨as, q, _⟩ := deep_reads sy I rh e1' r1 u1
        refine ⟨.cons ⟨as, by rw [e1']; exact q⟩ a, ?_⟩
        rw [List.zip_cons_cons, List.map_cons, b, e1']
        rfl
    · cases e
theorem call_sortedL (hu : X.A.units + 65 < cLine) (sy : SysOk X.base) : CallR X (.builtin "sorted") (fun vs H Q => ∃ μ h a ws xs ys W, vs = [.ref a] ∧ H a = some (.lst ws) ∧ RlH X.K cl H μ h ∧ Rls X.K cl H μ xs ws ∧ sortD h xs = some ys ∧
    Pg X.K cl μ H (alloc (.lst ys) h) (VP X.K cl Q) W) := by
  intro pins s σ H vs us Q I r hh
  obtain ⟨μ, h, a, ws, xs, ys, W, rfl, ha, rh, rx, es, pg⟩ := hh
  obtain ⟨u, rfl, ru⟩ := vals1 r
  cases ru
  unfold sortD at es
  split at es
  · rename_i ds ed
    split at es
    · rename_i hc
      obtain ⟨h1, h2, h3, h4⟩ := hc
      cases es
      obtain ⟨its, rv, hl, hz⟩ := I.list (SqL.of ha)
      obtain ⟨q1, q2⟩ := each_deep sy I rh ed rx rv
      have len : (xs.zip ws).length = xs.length := by rw [List.length_zip, rx.length]; omega
      refine PySem.W.sorted_data (β := D × V) (bs := xs.zip ws) (enc := fun b => (b.1.deep h).getD .none) hl.isList (each_zip rx rv) q1 ?_ ?_ (by rw [len]; exact lineOk_le h4) (fun b hb => ?_) fun out ho eo => ?_
      · rw [q2]
        intro d hd d' hd'
        rw [List.all_eq_true] at h1
        have := h1 d hd
        rw [List.all_eq_true] at this
        exact this d' hd'
      · rw [q2]
        refine .inl fun d hd => ?_
        rw [List.all_eq_true] at h2
        have := h2 d hd
        split at this
        · exact ⟨_, _, rfl⟩
        · cases this
      · rw [List.all_eq_true] at h3
        have hd : (b.1.deep h).getD .none ∈ ds := by rw [← q2]; exact List.mem_map.mpr ⟨b, hb, rfl⟩
        have := of_decide_eq_true (h3 _ hd)
        omega
      · obtain ⟨v1, v2⟩ := each_back eo
        have em : ((xs.zip ws).mergeSort (PySem.W.dataLe false fun b => (b.1.deep h).getD .none)).map (·.1) = xs.mergeSort (PySem.W.dataLe false fun d => (d.deep h).getD .none) := by
          have e0 := List.map_mergeSort (r := PySem.W.dataLe false fun b : D × V => (b.1.deep h).getD .none) (s := PySem.W.dataLe false fun d : D => (d.deep h).getD .none) (f := fun b : D × V => b.1) (l := xs.zip ws) (fun _ _ _ _ => rfl)
          have e1 : (xs.zip ws).map (fun b : D × V => b.1) = xs := List.map_fst_zip (by rw [rx.length]; exact Nat.le_refl _)
          rw [e1] at e0
          exact e0
        rw [em] at v2
        obtain ⟨e', he'⟩ := PyProof.Rows.sortedAll_at s.heap its out.toArray
        refine ⟨.ref (s.heap.objs.size + 1), _, I.laid (t' := s.toks) (fun b o e => PyProof.Rows.sortedAll_old e) (Nat.le_succ _) (show ObjOk X.prog X.w _ _ _ (.lst (((xs.zip ws).mergeSort (PySem.W.dataLe false fun b : D × V => (b.1.deep h).getD .none)).map (·.2))) from ⟨?_, out, e', v1, he'⟩), rfl, pg.lst rh v2 (I.hok.fresh (Nat.le_succ _))⟩
        rw [List.length_map, List.length_mergeSort, len]
        exact lineOk_le h4
    · cases es
  · cases es
theorem key_map (ys : List Ent) : (ys.mergeSort (PySem.W.dataLe false encT)).map (·.1) = sortK (ys.map (·.1)) :=
  List.map_mergeSort (fun _ _ _ _ => rfl)
theorem keys_rls {K : PySem.W.Frag} {H : Hp} {μ : List Addr} : ∀ zs : List Ent, KeysT K H zs → Rls K cl H μ ((zs.map (·.1)).map fun k => D.tup (k.map .int)) (zs.map fun z => V.ref z.2.1)
  | [], _ => by simp [Rls]
  | z :: zs, h => by
    rw [List.map_cons, List.map_cons, List.map_cons, Rls.cons]
    exact ⟨_, _, rfl, Rl.tup_iff.mpr ⟨_, _, rfl, h z List.mem_cons_self, Rls.ints.mpr rfl⟩, keys_rls zs fun y m => h y (List.mem_cons_of_mem _ m)⟩
theorem callr2 (hc : X.calm = true) (hg : X.A.guards = some []) (hu : X.A.units + 65 < cLine) (sy : SysOk X.base) (b : BF) : CallR X (bfV b) (tBL X.K cl (blt2 b)) := by
  intro pins s σ H vs us Q I r hh
  obtain ⟨μ, h, ds, W, rh, rs, pg⟩ := hh
  unfold blt2 at pg
  split at pg <;> try exact pg.elim
  · obtain ⟨v, rfl, rv⟩ := Rls.one_iff.mp rs
    obtain ⟨a, ws, rfl, s1, r1⟩ := Rl.tup_iff.mp rv
    split at pg <;> try exact pg.elim
    rename_i ns en
    rw [intsOf_map en, Rls.ints] at r1; subst r1
    exact cr_sumT hc pins s σ H _ us Q I r ⟨a, ns, rfl, s1, pg.val rh (Rl.int_iff.mpr rfl)⟩
  · obtain ⟨v, rfl, rv⟩ := Rls.one_iff.mp rs
    obtain ⟨a, ws, rfl, s1, r1⟩ := Rl.tup_iff.mp rv
    split at pg <;> try exact pg.elim
    rename_i n ns en
    rw [intsOf_map en, Rls.ints] at r1; subst r1
    exact cr_minT hc hu pins s σ H _ us Q I r ⟨a, n, ns, rfl, s1, pg.val rh (Rl.int_iff.mpr rfl)⟩
  · obtain ⟨v, rfl, rv⟩ := Rls.one_iff.mp rs
    rw [Rl.int_iff] at rv; subst rv
    exact cr_range1 pins s σ H _ us Q I r ⟨_, rfl, fun p np => pg μ _ (.new rh np) _ (Rl.rng_iff.mpr ⟨p, rfl, upd_same⟩)⟩
  · obtain ⟨v, w, rfl, rv, rw'⟩ := Rls.two_iff.mp rs
    rw [Rl.int_iff] at rv rw'; subst rv rw'
    exact cr_range2 pins s σ H _ us Q I r ⟨_, _, rfl, fun p np => pg μ _ (.new rh np) _ (Rl.rng_iff.mpr ⟨p, rfl, upd_same⟩)⟩
  · obtain ⟨v, rfl, rv⟩ := Rls.one_iff.mp rs
    split at pg <;> try exact pg.elim
    · rename_i xs ex
      obtain ⟨a, ws, rfl, _, s1, r1⟩ := rh.lst ex rv
      split at pg <;> try exact pg.elim
      rename_i ys ey
      exact call_sortedL hu sy pins s σ H _ us Q I r ⟨μ, h, a, ws, xs, ys, W, rfl, s1, rh, r1, ey, pg⟩
    · rename_i kvs ex
      obtain ⟨a, rfl, m⟩ := Rl.ref_iff.mp rv
      obtain ⟨ys, e1, k, ek, r1⟩ := rh.at_ _ _ a ex m
      split at pg <;> try exact pg.elim
      rename_i hne
      refine call_sortedX hc hu pins s σ H _ us Q I r ⟨a, ys, rfl, e1, k, fun y hy => ?_, fun p np => ?_⟩
      · rw [List.all_eq_true] at hne
        have : y.1 ∈ kvs.map (·.1) := by rw [← ek]; exact List.mem_map.mpr ⟨y, hy, rfl⟩
        obtain ⟨q, hq, eq⟩ := List.mem_map.mp this
        have := hne q hq
        rw [eq] at this
        intro z
        rw [z] at this
        cases this
      · have q := keys_rls (K := X.K) (cl := cl) (H := H) (μ := μ) (ys.mergeSort (PySem.W.dataLe false encT)) fun y m => k y ((List.mergeSort_perm ys _).mem_iff.mp m)
        rw [key_map, ek] at q
        exact pg.lst rh q np
theorem callr (hc : X.calm = true) (hg : X.A.guards = some []) (hu : X.A.units + 65 < cLine) (sy : SysOk X.base) (b : BF) : CallR X (bfV b) (tBL X.K cl (bltD b)) := by
  intro pins s σ H vs us Q I r hh
  obtain ⟨μ, h, ds, W, rh, rs, pg⟩ := hh
  unfold bltD at pg
  split at pg <;> try exact pg.elim
  · obtain ⟨v, rfl, rv⟩ := Rls.one_iff.mp rs
    obtain ⟨a, ws, rfl, s1, r1⟩ := Rl.tup_iff.mp rv
    exact call_len_seq pins s σ H _ us Q I r ⟨a, ws, rfl, .inr s1, by rw [← r1.length]; exact pg.val rh (Rl.int_iff.mpr rfl)⟩
  · obtain ⟨v, rfl, rv⟩ := Rls.one_iff.mp rs
    obtain ⟨a, ws, rfl, s1, r1⟩ := Rl.fz_iff.mp rv
    exact call_len_seq pins s σ H _ us Q I r ⟨a, ws, rfl, .inl s1.l, by rw [← r1.length]; exact pg.val rh (Rl.int_iff.mpr rfl)⟩
  · obtain ⟨v, rfl, rv⟩ := Rls.one_iff.mp rs
    split at pg <;> try exact pg.elim
    rename_i xs ex
    obtain ⟨a, ws, rfl, _, s1, r1⟩ := rh.lst (listAt_eq ex) rv
    exact call_len_seq pins s σ H _ us Q I r ⟨a, ws, rfl, .inl (.of s1), by rw [← r1.length]; exact pg.val rh (Rl.int_iff.mpr rfl)⟩
  · obtain ⟨v, rfl, rv⟩ := Rls.one_iff.mp rs
    rw [Rl.int_iff] at rv; subst rv
    exact call_abs pins s σ H _ us Q I r ⟨_, rfl, pg.val rh (Rl.int_iff.mpr rfl)⟩
  · obtain ⟨v, rfl, rv⟩ := Rls.one_iff.mp rs
    rw [Rl.int_iff] at rv; subst rv
    exact call_int1 pins s σ H _ us Q I r (.inl ⟨_, rfl, pg.val rh (Rl.int_iff.mpr rfl)⟩)
  · obtain ⟨v, rfl, rv⟩ := Rls.one_iff.mp rs
    rw [Rl.bl_iff] at rv; subst rv
    exact call_int1 pins s σ H _ us Q I r (.inr ⟨_, rfl, pg.val rh (Rl.int_iff.mpr rfl)⟩)
  · obtain ⟨v, w, rfl, rv, rw'⟩ := Rls.two_iff.mp rs
    rw [Rl.int_iff] at rv rw'; subst rv rw'
    split at pg <;> try exact pg.elim
    rename_i hd
    exact call_divmod pins s σ H _ us Q I r ⟨_, _, rfl, hd, fun p np => pg.tup rh (Rls.two_iff.mpr ⟨_, _, rfl, Rl.int_iff.mpr rfl, Rl.int_iff.mpr rfl⟩) np⟩
  · obtain ⟨v, w, rfl, rv, rw'⟩ := Rls.two_iff.mp rs
    rw [Rl.int_iff] at rv rw'; subst rv rw'
    exact cr_gcd pins s σ H _ us Q I r ⟨_, _, rfl, pg.val rh (Rl.int_iff.mpr rfl)⟩
  · obtain ⟨v, rfl, rv⟩ := Rls.one_iff.mp rs
    obtain ⟨a, ws, rfl, s1, r1⟩ := Rl.tup_iff.mp rv
    exact call_tuple_of pins s σ H _ us Q I r ⟨a, ws, rfl, .inr ⟨s1, pg.val rh rv⟩⟩
  · obtain ⟨v, rfl, rv⟩ := Rls.one_iff.mp rs
    split at pg <;> try exact pg.elim
    rename_i xs ex
    obtain ⟨a, ws, rfl, _, s1, r1⟩ := rh.lst (listAt_eq ex) rv
    exact call_tuple_of pins s σ H _ us Q I r ⟨a, ws, rfl, .inl ⟨.of s1, fun l hl => pg.tup rh r1 hl⟩⟩
  · obtain ⟨v, rfl, rv⟩ := Rls.one_iff.mp rs
    obtain ⟨a, ws, rfl, s1, r1⟩ := Rl.tup_iff.mp rv
    exact call_list_of pins s σ H _ us Q I r ⟨a, ws, rfl, .inr s1, fun l hl => pg.lst rh r1 hl⟩
  · obtain ⟨v, rfl, rv⟩ := Rls.one_iff.mp rs
    split at pg <;> try exact pg.elim
    rename_i xs ex
    obtain ⟨a, ws, rfl, _, s1, r1⟩ := rh.lst (listAt_eq ex) rv
    exact call_list_of pins s σ H _ us Q I r ⟨a, ws, rfl, .inl (.of s1), fun l hl => pg.lst rh r1 hl⟩
  · obtain ⟨v, rfl, rv⟩ := Rls.one_iff.mp rs
    split at pg <;> try exact pg.elim
    rename_i xs ex
    obtain ⟨a, ws, rfl, _, s1, r1⟩ := rh.lst (listAt_eq ex) rv
    split at pg <;> try exact pg.elim
    rename_i ns en
    rw [intsOf_map en, Rls.ints] at r1; subst r1
    exact cr_sum hc pins s σ H _ us Q I r ⟨a, ns, rfl, .of s1, pg.val rh (Rl.int_iff.mpr rfl)⟩
  · obtain ⟨v, w, rfl, rv, rw'⟩ := Rls.two_iff.mp rs
    rw [Rl.int_iff] at rv rw'; subst rv rw'
    exact call_max2 hc pins s σ H _ us Q I r ⟨_, _, rfl, pg.val rh (Rl.int_iff.mpr rfl)⟩
  · obtain ⟨v, w, rfl, rv, rw'⟩ := Rls.two_iff.mp rs
    rw [Rl.int_iff] at rv rw'; subst rv rw'
    exact call_min2 hc pins s σ H _ us Q I r ⟨_, _, rfl, pg.val rh (Rl.int_iff.mpr rfl)⟩
  · obtain ⟨v, rfl, rv⟩ := Rls.one_iff.mp rs
    split at pg <;> try exact pg.elim
    rename_i xs ex
    obtain ⟨a, ws, rfl, _, s1, r1⟩ := rh.lst (listAt_eq ex) rv
    split at pg <;> try exact pg.elim
    rename_i ns en
    rw [intsOf_map en, Rls.ints] at r1; subst r1
    split at pg <;> try exact pg.elim
    rename_i hne
    have mx := maxOf_mem hne
    refine cr_max hc pins s σ H _ us Q I r ⟨a, ns, rfl, .of s1, List.length_pos_iff.mpr hne, fun m hm hl => ?_⟩
    have e : m = maxOf ns := Int.le_antisymm (mx.2 m hm) (hl _ mx.1)
    subst e
    exact pg.val rh (Rl.int_iff.mpr rfl)
  · obtain ⟨v, rfl, rv⟩ := Rls.one_iff.mp rs
    split at pg <;> try exact pg.elim
    rename_i xs ex
    obtain ⟨a, ws, rfl, _, s1, r1⟩ := rh.lst (listAt_eq ex) rv
    split at pg <;> try exact pg.elim
    rename_i ns en
    rw [intsOf_map en, Rls.ints] at r1; subst r1
    split at pg <;> try exact pg.elim
    rename_i hne
    have mx := minOf_mem hne
    refine cr_min hc pins s σ H _ us Q I r ⟨a, ns, rfl, .of s1, List.length_pos_iff.mpr hne, fun m hm hl => ?_⟩
    have e : m = minOf ns := Int.le_antisymm (hl _ mx.1) (mx.2 m hm)
    subst e
    exact pg.val rh (Rl.int_iff.mpr rfl)
  · obtain ⟨v, rfl, rv⟩ := Rls.one_iff.mp rs
    split at pg <;> try exact pg.elim
    rename_i xs ex
    obtain ⟨a, ws, rfl, _, s1, r1⟩ := rh.lst (listAt_eq ex) rv
    split at pg <;> try exact pg.elim
    rename_i bs en
    rw [blsOf_map en] at r1
    have r1 := Rls.bls r1
    subst r1
    exact cr_all hc pins s σ H _ us Q I r ⟨a, bs, rfl, .of s1, pg.val rh (Rl.bl_iff.mpr rfl)⟩
  · obtain ⟨v, rfl, rv⟩ := Rls.one_iff.mp rs
    split at pg <;> try exact pg.elim
    rename_i xs ex
    obtain ⟨a, ws, rfl, _, s1, r1⟩ := rh.lst (listAt_eq ex) rv
    split at pg <;> try exact pg.elim
    rename_i bs en
    rw [blsOf_map en] at r1
    have r1 := Rls.bls r1
    subst r1
    exact cr_any hc pins s σ H _ us Q I r ⟨a, bs, rfl, .of s1, pg.val rh (Rl.bl_iff.mpr rfl)⟩
  · obtain ⟨v, rfl, rv⟩ := Rls.one_iff.mp rs
    split at pg <;> try exact pg.elim
    rename_i d ed
    split at pg <;> try exact pg.elim
    rename_i hd
    obtain ⟨u, rfl, ru⟩ := vals1 r
    obtain ⟨as, rd, ns⟩ := deep_reads sy I rh ed rv ru
    exact repr_reads I hg hu rd ns hd.1 hd.2.1 hd.2.2 (pg.val rh (Rl.str_iff.mpr rfl))
  · exact callr2 hc hg hu sy b pins s σ H vs us Q I r ⟨μ, h, ds, W, rh, rs, pg⟩

/-! ### isinstance -/
def cutT (K : PySem.W.Frag) (H : Hp) (h : Hh) (x : D) (v : V) : Prop := ∀ t, tyD h x = some t → TyX K H v (.type t)
theorem tyD_x {H : Hp} {μ : List Addr} {h : Hh} {x : D} {v : V} {t : String} {K : PySem.W.Frag} (rh : RlH K cl H μ h) (r : Rl K cl H μ x v) (e : tyD h x = some t) : TyX K H v (.type t) := by
  cases x with
  | non => rw [Rl.non_iff] at r; subst r; cases e; exact .base .non
  | bl b => rw [Rl.bl_iff] at r; subst r; cases e; exact .base (.bl b)
  | int b => rw [Rl.int_iff] at r; subst r; cases e; exact .base (.int b)
  | str b => rw [Rl.str_iff] at r; subst r; cases e; exact .base (.str b)
  | tup b =>
    obtain ⟨a, vs, rfl, s1, _⟩ := Rl.tup_iff.mp r
    cases e
    rcases s1 with (s1 | ⟨o, s1⟩) | ⟨o, its, n, s1, s2, _⟩
    · exact .base (.tup s1)
    · exact .fTuple s1
    · exact .kTuple s1 s2
  | fz b =>
    obtain ⟨a, vs, rfl, s1, _⟩ := Rl.fz_iff.mp r
    cases e
    rcases s1 with ⟨o, s1⟩ | ⟨o, its, n, s1, s2, _⟩
    · exact .base (.frz s1)
    · exact .kList s1 s2
  | ref n =>
    obtain ⟨a, rfl, m⟩ := Rl.ref_iff.mp r
    simp only [tyD] at e
    split at e
    · rename_i xs ex
      cases e
      obtain ⟨vs, e1, _⟩ := rh.at_ n _ a ex m
      exact .base (.lst e1)
    · rename_i xs ex
      cases e
      obtain ⟨_, e1⟩ := rh.at_ n _ a ex m
      exact .base (.dK e1)
    · cases e
  | ty n => cases e
  | cls k => cases e
  | rng _ _ => cases e
/-- isinstance(x, n), n a built-in class's name -/
theorem callr_isi (n : String) : CallR X (.builtin "isinstance") (fun vs H Q => ∃ x μ h d W, vs = [x, .ty n] ∧ RlH X.K cl H μ h ∧ Rl X.K cl H μ d x ∧ Pg X.K cl μ H (isiD h d (.b n)) (VP X.K cl Q) W) := by
  intro pins s σ H vs us Q I r hh
  obtain ⟨x, μ, h, d, W, rfl, rh, rd, pg⟩ := hh
  simp only [isiD] at pg
  split at pg <;> try exact pg.elim
  rename_i t et
  split at pg <;> try exact pg.elim
  rename_i b eb
  exact call_isi pins s σ H _ us Q I r ⟨x, .ty n, .type t, .type n, b, rfl, .ty n, tyD_x rh rd et, kit_ty eb, pg.val rh (Rl.bl_iff.mpr rfl)⟩

/-! ### stores -/
theorem pset : PSet X (fun o i v H Q => ∃ μ h a b d W, RlH X.K cl H μ h ∧ Rl X.K cl H μ a o ∧ Rl X.K cl H μ b i ∧ Rl X.K cl H μ d v ∧ Pg X.K cl μ H (setI a b d h) (fun _ _ _ H' => Q H') W) := by
  intro pins s σ H o i v ov iv u Q I ro ri rv hh
  obtain ⟨μ, h, a, b, d, W, rh, ra, rb, rd, pg⟩ := hh
  unfold setI at pg
  split at pg <;> try exact pg.elim
  rw [Rl.int_iff] at rb
  split at pg <;> try exact pg.elim
  rename_i xs ex
  obtain ⟨p, ws, rfl, m, s1, r1⟩ := rh.lst ex ra
  split at pg <;> try exact pg.elim
  rename_i j ej
  rw [r1.length] at ej
  refine set_list pins s σ H _ _ _ ov iv u Q I ro ri rv ⟨p, ws, _, j, rfl, rb, s1, ej, ?_⟩
  exact pg μ _ (.set rh m s1 trivial (not_code fun _ z => by cases z) ⟨_, upd_same, (r1.set rd j).mono (Tp.upd_mut s1 trivial) List.prefix_rfl⟩)
theorem mtr_append : MtR X "list.append" (fun x vs H Q => ∃ y μ h a d W, vs = [y] ∧ RlH X.K cl H μ h ∧ Rl X.K cl H μ a x ∧ Rl X.K cl H μ d y ∧ Pg X.K cl μ H (app a d h) (VP X.K cl Q) W) := by
  intro pins s σ H x vs v us Q I rx rvs hh
  obtain ⟨y, μ, h, a, d, W, rfl, rh, ra, rd, pg⟩ := hh
  unfold app at pg
  split at pg <;> try exact pg.elim
  split at pg <;> try exact pg.elim
  rename_i xs ex
  obtain ⟨p, ws, rfl, m, s1, r1⟩ := rh.lst ex ra
  split at pg <;> try exact pg.elim
  rename_i hl
  rw [r1.length] at hl
  refine mt_append pins s σ H _ _ v us Q I rx rvs ⟨p, ws, y, rfl, rfl, s1, hl, ?_⟩
  exact pg μ _ (.set rh m s1 trivial (not_code fun _ z => by cases z) ⟨_, upd_same, (r1.append (Rls.one rd)).mono (Tp.upd_mut s1 trivial) List.prefix_rfl⟩) _ (Rl.non_iff.mpr rfl)
end
end HS

/-! What loops walk: lists and tuples, ranges, enumerate, zip, reversed. -/
namespace HS
open PySem L2 PyProof.Rows

/-- how an exception lies: its class, its own dict -/
def RlX (K : PySem.W.Frag) (cl : Md) (H : Hp) (μ : List Addr) (e : X) (c : Value) (dd : Option Addr) : Prop :=
  ∃ a, c = .ref a ∧ cl.c e.k = some a ∧ (e.fs = [] → dd = none) ∧ (∀ f x, e.fs = [(f, x)] → ∃ d v, dd = some d ∧ H d = some (.xd [(f, v)]) ∧ Rl K cl H μ x v)
/-- an exception's wish -/
def wX (K : PySem.W.Frag) (cl : Md) (W : WX) (σ : L2.St) : X → Hh → List Addr → Hp → Prop := fun e _ μ' H' => ∀ c dd, RlX K cl H' μ' e c dd → W c dd σ H'
/-- an expression's reading by the evaluator -/
def tE (K : PySem.W.Frag) (cl : Md) (W : WX) (m : En → Hh → R D) : TE := fun σ H Q => ∃ μ ρ h, RlE K cl H μ σ ρ ∧ RlH K cl H μ h ∧ Pg K cl μ H (m ρ h) (VP K cl Q) (wX K cl W σ)
def tT (K : PySem.W.Frag) (cl : Md) (W : WX) (m : En → Hh → R Bool) : TT := fun σ H Q => ∃ μ ρ h, RlE K cl H μ σ ρ ∧ RlH K cl H μ h ∧ Pg K cl μ H (m ρ h) (fun b _ _ H' => Q b H') (wX K cl W σ)
def tA (K : PySem.W.Frag) (cl : Md) (W : WX) (m : En → Hh → R (List D)) : TA := fun σ H Q => ∃ μ ρ h, RlE K cl H μ σ ρ ∧ RlH K cl H μ h ∧ Pg K cl μ H (m ρ h) (fun ds _ μ' H' => ∀ vs, Rls K cl H' μ' ds vs → Q vs H') (wX K cl W σ)
def tO (K : PySem.W.Frag) (cl : Md) (W : WX) (m : En → Hh → R (Option Int)) : TO := fun σ H Q => ∃ μ ρ h, RlE K cl H μ σ ρ ∧ RlH K cl H μ h ∧ Pg K cl μ H (m ρ h) (fun i _ _ H' => Q i H') (wX K cl W σ)
/-- J gives these items, one by one, while the guards stand -/
def Srcs (K : PySem.W.Frag) (cl : Md) (μ : List Addr) (H : Hp) (J : L2.It) (items : List D) (gs : Gs) : Prop :=
  ∀ (i : Nat) (H' : Hp) (μ' : List Addr) (h' : Hh), Go K cl μ H h' μ' H' → gsOk gs h' →
    (∀ d, items[i]? = some d → J.go i H' ∧ ∀ x H'', J.yld i H' x H'' → Go K cl μ' H' h' μ' H'' ∧ Rl K cl H'' μ' d x) ∧ (i = items.length → J.stop i H')
def tI (K : PySem.W.Frag) (cl : Md) (W : WX) (m : En → Hh → R (List D × Gs)) : TI := fun σ H R => ∃ μ ρ h, RlE K cl H μ σ ρ ∧ RlH K cl H μ h ∧ Pg K cl μ H (m ρ h) (fun p _ μ' H' => ∀ J, Srcs K cl μ' H' J p.1 p.2 → R J H') (wX K cl W σ)

section
variable {K : PySem.W.Frag} {cl : Md} {H H' H'' : Hp} {μ μ' : List Addr}
theorem rd_inj {H : Hp} {a : Addr} {xs ys : List V} (h : H a = some (.lst xs)) (g : SqL K H a ys) (k : K.lookup a = none ∨ True) : True := trivial
/-- a sequence: a list, or a tuple -/
def Sq (K : PySem.W.Frag) (tp : Bool) (H : Hp) (a : Addr) (xs : List V) : Prop := if tp = true then SqT K H a xs else SqL K H a xs
/-- what an item source is, at every later state -/
structure SeqSrc (K : PySem.W.Frag) (cl : Md) (μ : List Addr) (H : Hp) (tp : Bool) (a : Addr) (items : List D) (gs : Gs) : Prop where
  here : ∃ vs, Sq K tp H a vs ∧ Rls K cl H μ items vs
  later : ∀ (H' : Hp) (μ' : List Addr) (h' : Hh), Go K cl μ H h' μ' H' → gsOk gs h' → ∃ vs, Sq K tp H' a vs ∧ Rls K cl H' μ' items vs
theorem itemsD_src {h : Hh} {d : D} {v : V} {p : List D × Gs} {h1 : Hh} (rh : RlH K cl H μ h) (r : Rl K cl H μ d v) (e : itemsD d h = .ok p h1) : h1 = h ∧ ∃ tp a, v = .ref a ∧ SeqSrc K cl μ H tp a p.1 p.2 := by
  unfold itemsD at e
  split at e
  · rename_i xs
    obtain ⟨a, vs, rfl, s, r⟩ := Rl.tup_iff.mp r
    cases e
    exact ⟨rfl, true, a, rfl, ⟨vs, s, r⟩, fun H' μ' h' g _ => ⟨vs, g.tp.sqT s, r.mono g.tp g.pre⟩⟩
  · rename_i xs
    obtain ⟨a, vs, rfl, s, r⟩ := Rl.fz_iff.mp r
    cases e
    exact ⟨rfl, false, a, rfl, ⟨vs, s.l, r⟩, fun H' μ' h' g _ => ⟨vs, (g.tp.sqF s).l, r.mono g.tp g.pre⟩⟩
  · rename_i n
    split at e
    · rename_i xs ex
      cases e
      obtain ⟨a, vs, rfl, m, s, r⟩ := rh.lst (listAt_eq ex) r
      refine ⟨rfl, false, a, rfl, ⟨vs, .of s, r⟩, fun H' μ' h' g gs => ?_⟩
      have e2 := listAt_eq (gs _ (List.mem_singleton.mpr rfl))
      obtain ⟨ws, e3, r3⟩ := g.rh.at_ _ _ a e2 (pre_get g.pre m)
      exact ⟨ws, .of e3, r3⟩
    · cases e
  · cases e
end

section
variable {X : Cx} {cl : Md}
/-- two readings of one sequence are one -/
theorem sq_inj {pins : List (Addr × Obj)} {s : Shared} {σ : L2.St} {H : Hp} {tp : Bool} {a : Addr} {xs ys : List V} (I : Inv X pins σ H s) (h : Sq X.K tp H a xs) (g : Sq X.K tp H a ys) : xs = ys := by
  cases tp with
  | true => exact I.tuple_inj h g
  | false => exact I.list_inj h g

/-! ### the sequence itself: items as they stand -/
def ItS (K : PySem.W.Frag) (tp : Bool) (a : Addr) : L2.It := if tp = true then Itt K a else Itl K a
theorem src_seq {K : PySem.W.Frag} {H : Hp} {μ : List Addr} {tp : Bool} {a : Addr} {items : List D} {gs : Gs} (s : SeqSrc K cl μ H tp a items gs) : Srcs K cl μ H (ItS K tp a) items gs := by
  intro i H' μ' h' g ok
  obtain ⟨vs, sv, rv⟩ := s.later H' μ' h' g ok
  have len := rv.length
  cases tp with
  | true =>
    refine ⟨fun d e => ?_, fun e => ⟨vs, sv, by omega⟩⟩
    obtain ⟨v, ev, r⟩ := rv.get e
    refine ⟨⟨vs, v, sv, ev⟩, fun x H'' y => ?_⟩
    obtain ⟨rfl, y⟩ := y
    have q := y vs sv
    rw [ev] at q; cases q
    exact ⟨.refl g.rh, r⟩
  | false =>
    refine ⟨fun d e => ?_, fun e => ⟨vs, sv, by omega⟩⟩
    obtain ⟨v, ev, r⟩ := rv.get e
    refine ⟨⟨vs, v, sv, ev⟩, fun x H'' y => ?_⟩
    obtain ⟨rfl, y⟩ := y
    have q := y vs sv
    rw [ev] at q; cases q
    exact ⟨.refl g.rh, r⟩
/-- iter(v) -/
theorem iter_seq {pins : List (Addr × Obj)} {s : Shared} {σ : L2.St} {H : Hp} {tg : Expr} {R : L2.It → Hp → Prop} {tp : Bool} {a : Addr} {vs : List V} (I : Inv X pins σ H s) (sv : Sq X.K tp H a vs) (q : R (ItS X.K tp a) H) :
    wpAny (model X.prog X.w) X.A (pyIter (.ref a)) (PIE X pins σ tg R) X.xe s := by
  have f1 : ∀ b ∈ [s.heap.objs.size], FpOk X pins H b := fun b hb => by
    rw [List.mem_singleton.mp hb]
    exact I.fpOk (Nat.le_refl _) (I.hok.fresh (Nat.le_refl _))
  cases tp with
  | true =>
    obtain ⟨its, rv, p, hz⟩ := I.tuple sv
    exact wpAny_pyIter_tuple (show s.heap.IsTuple a its.toArray from p) ⟨_, _, _, _, H, rfl, I.kept (t' := s.toks) (fun b o e => Heap.get?_push_of_some _ e), turn_tuple a _, ⟨_, Heap.get?_push_size _ rfl, rfl, rfl⟩, f1, q⟩
  | false =>
    obtain ⟨its, rv, p, hz⟩ := I.list sv
    exact wpAny_pyIter_list p.isList ⟨_, _, _, _, H, rfl, I.kept (t' := s.toks) (fun b o e => Heap.get?_push_of_some _ e), turn_list a _, ⟨_, Heap.get?_push_size _ rfl, rfl, rfl⟩, f1, q⟩

/-! ### enumerate -/
def ItE (K : PySem.W.Frag) (tp : Bool) (a : Addr) : L2.It :=
  ⟨fun i H => ∃ (xs : List V) (x : V), Sq K tp H a xs ∧ xs[i]? = some x, fun i H v H' => ∃ T x, v = .ref T ∧ H T = none ∧ H' = upd H T (.tup [.int (i : Nat), x]) ∧ ∀ xs, Sq K tp H a xs → xs[i]? = some x, fun i H => ∃ xs : List V, Sq K tp H a xs ∧ xs.length = i⟩
/-- the iterator over the sequence -/
def SqIter (tp : Bool) (h : Heap) (it a : Addr) (i : Nat) : Prop := if tp = true then h.IsTupleIter it a i else h.IsListIter it a i
theorem SqIter.obj {tp : Bool} {h : Heap} {it a : Addr} {i : Nat} (x : SqIter tp h it a i) : ∃ o, h.get? it = some o ∧ ∀ v, o.data ≠ .cell v := by
  cases tp with
  | true => obtain ⟨o, e, c, d⟩ := (show h.IsTupleIter it a i from x); exact ⟨o, e, fun v z => by rw [d] at z; cases z⟩
  | false => obtain ⟨o, e, c, d⟩ := (show h.IsListIter it a i from x); exact ⟨o, e, fun v z => by rw [d] at z; cases z⟩
theorem SqIter.at_ {tp : Bool} {h h' : Heap} {it a : Addr} {i : Nat} (x : SqIter tp h it a i) (k : ∀ o, h.get? it = some o → h'.get? it = some o) : SqIter tp h' it a i := by
  cases tp with
  | true => exact Heap.IsTupleIter.at (show h.IsTupleIter it a i from x) k
  | false => exact Heap.IsListIter.at (show h.IsListIter it a i from x) k
/-- the sequence in the heap itself -/
def SqAt (tp : Bool) (h : Heap) (a : Addr) (its : List Value) : Prop := if tp = true then h.IsTuple a its.toArray else h.IsList a its.toArray
theorem sq_at {pins : List (Addr × Obj)} {s : Shared} {σ : L2.St} {H : Hp} {tp : Bool} {a : Addr} {xs : List V} (I : Inv X pins σ H s) (sv : Sq X.K tp H a xs) : ∃ its : List Value, Vals xs its ∧ SqAt tp s.heap a its := by
  cases tp with
  | true => obtain ⟨its, r, p, _⟩ := I.tuple sv; exact ⟨its, r, p⟩
  | false => obtain ⟨its, r, p, _⟩ := I.list sv; exact ⟨its, r, p.isList⟩
theorem SqAt.ne {tp : Bool} {h : Heap} {a it : Addr} {its : List Value} {i : Nat} (x : SqAt tp h a its) (y : SqIter tp h it a i) : a ≠ it := by
  rintro rfl
  cases tp with
  | true =>
    obtain ⟨o, e, c, _⟩ := (show h.IsTuple a its.toArray from x)
    obtain ⟨o', e', c', _⟩ := (show h.IsTupleIter a a i from y)
    rw [e] at e'; cases e'; rw [c] at c'; exact absurd c' (by decide)
  | false =>
    obtain ⟨o, e, c, _⟩ := (show h.IsList a its.toArray from x)
    obtain ⟨o', e', c', _⟩ := (show h.IsListIter a a i from y)
    rw [e] at e'; cases e'; rw [c] at c'; exact absurd c' (by decide)
/-- it draws the sequence's items -/
theorem sq_draws {P : Program} {w : World} (tp : Bool) {a it : Addr} (A : Around) (hh : A.handled = none) (its : List Value) (ne : a ≠ it) :
    Draws P w A it [it, a] its.toArray.size (fun i v => its.toArray[i]? = some v) (fun i h => SqIter tp h it a i ∧ SqAt tp h a its) := by
  cases tp with
  | true => exact Draws.tuple hh it a ne its.toArray
  | false => exact Draws.list hh it a ne its.toArray
/-- how it begins -/
def itO (tp : Bool) (a : Addr) : Obj := if tp = true then { cls := .type "tuple_iterator", data := .fields #[.ref a, .int 0 0] } else { cls := .type "list_iterator", data := .fields #[.ref a, .int 0 0] }
theorem sq_begins (tp : Bool) (a : Addr) (its : List Value) : Begins (.ref a) (itO tp a) (fun h => SqAt tp h a its) := by
  cases tp with
  | true => exact begins_tuple a its.toArray
  | false => exact begins_list a its.toArray
theorem itO_iter {tp : Bool} {h : Heap} {it a : Addr} (e : h.get? it = some (itO tp a)) : SqIter tp h it a 0 := by
  cases tp with
  | true => exact ⟨_, e, rfl, rfl⟩
  | false => exact ⟨_, e, rfl, rfl⟩
set_option maxHeartbeats 1000000 in
theorem enum_makes {v : Value} {o : Obj} {G : Heap → Prop} (B : Begins v o G) :
    Meets (Builtin.«enumerate.__new__» ⟨[.type "enumerate", v], []⟩) (fun _ R s => G s.heap ∧
      R (.ok (.ret (.ref (s.heap.push o).objs.size))) { s with heap := (s.heap.push o).push { cls := .type "enumerate", data := .fields #[.none, .bool false, .ref s.heap.objs.size, rawInt 0, .none, .none] } }) := by
  refine .of_wp fun P w A R s hh => ?_
  obtain ⟨hp, g, d, tk, os⟩ := s
  obtain ⟨hG, hR⟩ := hh
  have sub := sub_enumerate
  have start : ∀ {A' : Around} {E Q : Value → Shared → Prop}, Q (.ref hp.objs.size) ⟨hp.push o, g, d, tk, os⟩ → wpAny (model P w) A' (pyIter v) Q E ⟨hp, g, d, tk, os⟩ := fun q => B.iter P w _ _ ⟨hp, g, d, tk, os⟩ _ hG q
  wp_walk using start
  refine wpAny_stack_any fun st => wpAny_pure ?_
  split
  · rename_i c _ _ _ _ _
    cases (c == Value.type "enumerate") <;> (wp_walk using start; exact ⟨_, rfl, hR⟩)
  · wp_walk using start
    exact ⟨_, rfl, hR⟩
theorem enum_one {P : Program} {w : World} {A : Around} {E Q : Value → Shared → Prop} {s : Shared} {v : Value} {o : Obj} {G : Heap → Prop} (B : Begins v o G) (hG : G s.heap)
    (q : ∀ h', IsEnum h' (s.heap.objs.size + 1) s.heap.objs.size 0 .none → h'.get? s.heap.objs.size = some o → (∀ b x, s.heap.get? b = some x → h'.get? b = some x) → Q (.ref (s.heap.objs.size + 1)) { s with heap := h' }) :
    wpAny (model P w) A (call (.type "enumerate") [v]) Q E s := by
  refine callType_new F.called_enumerate (by decide) (F.typeCall_enumerate_1 _) (F.newCall_enumerate_1 _) (fun obj => F.args_object_init_2 obj _) F.entry_enumerate_new (enum_makes B) ⟨hG, ?_⟩
  have z : (s.heap.push o).objs.size = s.heap.objs.size + 1 := Heap.size_push ..
  have e := Heap.get?_push_size (s.heap.push o) (o := { cls := .type "enumerate", data := .fields #[.none, .bool false, .ref s.heap.objs.size, rawInt 0, .none, .none] }) rfl
  rw [z] at e
  show _ ∧ _
  rw [z]
  exact ⟨⟨_, e, rfl⟩, q _ e (Heap.get?_push_of_some _ (Heap.get?_push_size _ B.free)) fun b x y => Heap.get?_push_of_some _ (Heap.get?_push_of_some _ y)⟩

theorem turn_enumS {P : Program} {w : World} {K : PySem.W.Frag} {elts : List Expr} {kk : Nat} {tpos : Pos} (tp : Bool) (a e it : Addr) :
    Turn P w K (.Tuple elts kk tpos) (ItE K tp a) [e, it] e (fun i h => (∃ old, IsEnum h e it (0 + (i : Int)) old) ∧ SqIter tp h it a i ∧ e ≠ it) where
  mem := by simp
  obj := fun i h st b hb => by
    obtain ⟨⟨old, he⟩, hi, _⟩ := st
    rcases (show b = e ∨ b = it by simpa using hb) with rfl | rfl
    · exact ⟨_, he, fun v q => nomatch q⟩
    · exact hi.obj
  keep := fun i h h' st k => by
    obtain ⟨⟨old, he⟩, hi, hne⟩ := st
    exact ⟨⟨old, k e (by simp) _ he⟩, hi.at_ fun o q => k it (by simp) o q, hne⟩
  item := by
    intro X hP hw hK hc i pins s σ H E I hf st hg
    subst hP hw hK
    obtain ⟨⟨old, he⟩, hit, hne⟩ := st
    obtain ⟨xs, x, hq, hx⟩ := hg
    obtain ⟨its, rv, sa⟩ := sq_at I hq
    obtain ⟨u, hu, ru⟩ := rv.get hx
    have nea : e ≠ a := by
      rintro rfl
      cases tp with
      | true =>
        obtain ⟨o, e1, c1, _⟩ := (show s.heap.IsTuple e its.toArray from sa)
        rw [show s.heap.get? e = some _ from he] at e1
        cases e1; exact absurd (show Value.type "enumerate" = Value.type "tuple" from c1) (by decide)
      | false =>
        obtain ⟨o, e1, c1, _⟩ := (show s.heap.IsList e its.toArray from sa)
        rw [show s.heap.get? e = some _ from he] at e1
        cases e1; exact absurd (show Value.type "enumerate" = Value.type "list" from c1) (by decide)
    have W := WalksT.enumFrom (prog := X.prog) (w := X.w) (A := X.A) 0 (sq_draws tp X.A.in1 (I.ok.hd hc) its (sa.ne hit)) e hne (by simp [hne, nea]) (by simp)
    have hil : i < its.toArray.size := by
      have := (List.getElem?_eq_some_iff.mp hu).1
      simpa using this
    refine W.item i s _ _ hil ⟨⟨old, he⟩, hit, sa⟩ fun T vals h' tk hp hT it' mid hk => ⟨_, rfl, ?_⟩
    refine W.go elts kk tpos i T { s with heap := h', toks := tk } _ _ mid fun h'' st'' hk' => ?_
    obtain ⟨t, y, hy, hv⟩ := hp
    have ey : y = u := by
      have hu' : its.toArray[i]? = some u := by simpa using hu
      rw [hu'] at hy
      exact (Option.some.inj hy).symm
    subst ey hv
    have nT := W.apart i T h' mid
    obtain ⟨o, ho, hoc, n, hod⟩ := it'
    have hT2 := hk' T o nT ho
    have new : ObjOk X.prog X.w (upd H T (.tup [.int (i : Nat), x])) h'' T (.tup [.int (i : Nat), x]) :=
      ⟨by show 2 ≤ sizeLine; decide, [.int (0 + (i : Int)) t, y], .cons ⟨t, by rw [Int.zero_add]⟩ (.cons ru .nil), o, hT2, hoc, n, hod⟩
    have I1 : Inv X pins σ (upd H T (.tup [.int (i : Nat), x])) { s with heap := h'', toks := tk } :=
      I.turnedNew (ch := [e, it]) (fun b ob hb q => hk' b ob hb (hk b ob hb q)) hf hT new
    obtain ⟨st1, st2, _⟩ := st''
    refine ⟨.ref T, _, I1, rfl, ⟨T, x, rfl, I.hok.fresh hT, rfl, fun ys hy => by rw [sq_inj I hy hq]; exact hx⟩, ⟨st1, st2, hne⟩, fun b hb => ?_⟩
    have hbl : b < s.heap.objs.size := by
      rcases (show b = e ∨ b = it by simpa using hb) with rfl | rfl
      · exact Heap.lt_size he
      · obtain ⟨o, e1, _⟩ := hit.obj; exact Heap.lt_size e1
    rw [upd_ne (Nat.ne_of_lt (Nat.lt_of_lt_of_le hbl hT))]
    exact (hf b hb).1
  done := by
    intro X hP hw hK hc i pins s σ H E I hf st hg
    subst hP hw hK
    obtain ⟨⟨old, he⟩, hit, hne⟩ := st
    obtain ⟨xs, hq, hx⟩ := hg
    obtain ⟨its, rv, sa⟩ := sq_at I hq
    have nea : e ≠ a := by
      rintro rfl
      cases tp with
      | true =>
        obtain ⟨o, e1, c1, _⟩ := (show s.heap.IsTuple e its.toArray from sa)
        rw [show s.heap.get? e = some _ from he] at e1
        cases e1; exact absurd (show Value.type "enumerate" = Value.type "tuple" from c1) (by decide)
      | false =>
        obtain ⟨o, e1, c1, _⟩ := (show s.heap.IsList e its.toArray from sa)
        rw [show s.heap.get? e = some _ from he] at e1
        cases e1; exact absurd (show Value.type "enumerate" = Value.type "list" from c1) (by decide)
    have len := rv.length
    have W := WalksT.enumFrom (prog := X.prog) (w := X.w) (A := X.A) 0 (sq_draws tp X.A.in1 (I.ok.hd hc) its (sa.ne hit)) e hne (by simp [hne, nea]) (by simp)
    have hn : i = its.toArray.size := by simp; omega
    subst hn
    exact W.done s _ _ ⟨⟨old, he⟩, hit, sa⟩ fun h' tk hk => ⟨rfl, I.turnedL (ch := [e, it]) hk hf⟩
  self := fun A i s Q E st h => wpAny_pyIter_enum st.1.choose_spec h
/-- the new iterator's objects are ours to turn -/
theorem fp_new {pins : List (Addr × Obj)} {s : Shared} {σ : L2.St} {H : Hp} (I : Inv X pins σ H s) {fp : List Addr} (h : ∀ b ∈ fp, s.heap.objs.size ≤ b) : ∀ b ∈ fp, FpOk X pins H b := fun b hb => I.fpOk (h b hb) (I.hok.fresh (h b hb))
theorem iter_enum {pins : List (Addr × Obj)} {s : Shared} {σ : L2.St} {H : Hp} {elts : List Expr} {kk : Nat} {tpos : Pos} {R : L2.It → Hp → Prop} {tp : Bool} {a : Addr} {vs : List V} (I : Inv X pins σ H s) (sv : Sq X.K tp H a vs) (q : R (ItE X.K tp a) H) :
    wpAny (model X.prog X.w) X.A (call (.type "enumerate") [.ref a]) (fun v s1 => wpAny (model X.prog X.w) X.A (pyIter v) (PIE X pins σ (.Tuple elts kk tpos) R) X.xe s1) X.xe s := by
  obtain ⟨its, rv, sa⟩ := sq_at I sv
  refine enum_one (sq_begins tp a its) sa fun h' he hit hk => wpAny_pyIter_enum he ?_
  refine ⟨s.heap.objs.size + 1, [s.heap.objs.size + 1, s.heap.objs.size], _, _, H, rfl, I.kept (t' := s.toks) hk, turn_enumS tp a (s.heap.objs.size + 1) s.heap.objs.size, ⟨⟨.none, he⟩, itO_iter hit, Nat.succ_ne_self _⟩, fp_new I fun b hb => ?_, q⟩
  rcases (show b = s.heap.objs.size + 1 ∨ b = s.heap.objs.size by simpa using hb) with rfl | rfl
  · exact Nat.le_succ _
  · exact Nat.le_refl _
theorem src_enum {K : PySem.W.Frag} {H : Hp} {μ : List Addr} {tp : Bool} {a : Addr} {items : List D} {gs : Gs} (s : SeqSrc K cl μ H tp a items gs) : Srcs K cl μ H (ItE K tp a) (numbered items) gs := by
  intro i H' μ' h' g ok
  obtain ⟨vs, sv, rv⟩ := s.later H' μ' h' g ok
  have len := rv.length
  refine ⟨fun d e => ?_, fun e => ⟨vs, sv, by rw [e]; simp [numbered, len]⟩⟩
  have hi : ∃ x, items[i]? = some x ∧ d = .tup [.int (i : Nat), x] := by
    unfold numbered at e
    rw [List.getElem?_map, List.getElem?_zipIdx] at e
    cases q : items[i]? with
    | none => rw [q] at e; cases e
    | some x => rw [q] at e; cases e; exact ⟨x, rfl, by simp⟩
  obtain ⟨y, ey, rfl⟩ := hi
  obtain ⟨v, ev, r⟩ := rv.get ey
  refine ⟨⟨vs, v, sv, ev⟩, fun x H'' yl => ?_⟩
  obtain ⟨T, z, rfl, nT, rfl, hz⟩ := yl
  have q := hz vs sv
  rw [ev] at q; cases q
  exact ⟨.new g.rh nT, Rl.tup_iff.mpr ⟨T, _, rfl, .of upd_same, Rls.two_iff.mpr ⟨_, _, rfl, Rl.int_iff.mpr rfl, r.mono (Tp.upd_new nT) List.prefix_rfl⟩⟩⟩

/-! ### zip -/
def ItZ (K : PySem.W.Frag) (t1 t2 : Bool) (a b : Addr) : L2.It :=
  ⟨fun i H => ∃ (xs ys : List V) (x y : V), Sq K t1 H a xs ∧ Sq K t2 H b ys ∧ xs[i]? = some x ∧ ys[i]? = some y,
    fun i H v H' => ∃ T x y, v = .ref T ∧ H T = none ∧ H' = upd H T (.tup [x, y]) ∧ (∀ xs, Sq K t1 H a xs → xs[i]? = some x) ∧ ∀ ys, Sq K t2 H b ys → ys[i]? = some y,
    fun i H => ∃ xs ys : List V, Sq K t1 H a xs ∧ Sq K t2 H b ys ∧ i = min xs.length ys.length⟩
/-- where zip's own objects lie, beside the sequences -/
structure Apart (z TI TO i1 i2 : Addr) : Prop where
  TIz : TI ≠ z
  TOz : TO ≠ z
  TITO : TI ≠ TO
  TIi1 : TI ≠ i1
  TIi2 : TI ≠ i2
  i1z : i1 ≠ z
  i2z : i2 ≠ z
  i1TO : i1 ≠ TO
  i2TO : i2 ≠ TO
  i12 : i1 ≠ i2
theorem not_seq {pins : List (Addr × Obj)} {s : Shared} {σ : L2.St} {H : Hp} {tp : Bool} {a b : Addr} {its : List Value} {o : Obj} (sa : SqAt tp s.heap a its) (e : s.heap.get? b = some o) (c : ∀ n, o.cls = .type n → n ≠ "list" ∧ n ≠ "tuple") : b ≠ a := by
  rintro rfl
  cases tp with
  | true =>
    obtain ⟨o', e1, c1, _⟩ := (show s.heap.IsTuple b its.toArray from sa)
    rw [e] at e1; cases e1
    exact (c _ c1).2 rfl
  | false =>
    obtain ⟨o', e1, c1, _⟩ := (show s.heap.IsList b its.toArray from sa)
    rw [e] at e1; cases e1
    exact (c _ c1).1 rfl
theorem turn_zipS {P : Program} {w : World} {K : PySem.W.Frag} {elts : List Expr} {kk : Nat} {tpos : Pos} (t1 t2 : Bool) {a b z TI TO i1 i2 : Addr} (Z : Apart z TI TO i1 i2) :
    Turn P w K (.Tuple elts kk tpos) (ItZ K t1 t2 a b) [z, TI, TO, i1, i2] z (fun i h => IsZip h z TI TO .none ∧ IsTupOf2 h TI (.ref i1) (.ref i2) ∧ (∃ x y, IsTupOf2 h TO x y) ∧ SqIter t1 h i1 a i ∧ SqIter t2 h i2 b i ∧ TO ≠ a ∧ TO ≠ b) where
  mem := by simp
  obj := fun i h st c hc => by
    obtain ⟨hz, hI, ⟨x, y, hO⟩, h1, h2, _⟩ := st
    rcases (show c = z ∨ c = TI ∨ c = TO ∨ c = i1 ∨ c = i2 by simpa using hc) with rfl | rfl | rfl | rfl | rfl
    · exact ⟨_, hz, fun v q => nomatch q⟩
    · exact ⟨_, hI, fun v q => nomatch q⟩
    · exact ⟨_, hO, fun v q => nomatch q⟩
    · exact h1.obj
    · exact h2.obj
  keep := fun i h h' st k => by
    obtain ⟨hz, hI, ⟨x, y, hO⟩, h1, h2, n1, n2⟩ := st
    exact ⟨k z (by simp) _ hz, k TI (by simp) _ hI, ⟨x, y, k TO (by simp) _ hO⟩, h1.at_ fun o q => k i1 (by simp) o q, h2.at_ fun o q => k i2 (by simp) o q, n1, n2⟩
  item := by
    intro X hP hw hK hc i pins s σ H E I hf st hg
    subst hP hw hK
    obtain ⟨hz, hI, hO, h1, h2, n1, n2⟩ := st
    obtain ⟨xs, ys, x, y, hq1, hq2, hx, hy⟩ := hg
    obtain ⟨its, rv, sa⟩ := sq_at I hq1
    obtain ⟨its2, rv2, sb⟩ := sq_at I hq2
    obtain ⟨u, hu, ru⟩ := rv.get hx
    obtain ⟨u2, hu2, ru2⟩ := rv2.get hy
    have W := WalksT.zipD2 (prog := X.prog) (w := X.w) (A := X.A) (z := z) (TI := TI) (TO := TO) (i1 := i1) (i2 := i2) (zipSep Z hz sa sb h1 h2 n1 n2) (sq_draws t1 X.A.in1 (I.ok.hd hc) its (sa.ne h1)) (sq_draws t2 X.A.in1 (I.ok.hd hc) its2 (sb.ne h2))
    have hil : i < min its.toArray.size its2.toArray.size := by
      have := (List.getElem?_eq_some_iff.mp hu).1
      have := (List.getElem?_eq_some_iff.mp hu2).1
      simp; omega
    refine W.item i s _ _ hil ⟨hz, hI, hO, ⟨h1, sa⟩, ⟨h2, sb⟩⟩ fun T vals h' tk hp hT it' mid hk => ⟨_, rfl, ?_⟩
    refine W.go elts kk tpos i T { s with heap := h', toks := tk } _ _ mid fun h'' st'' hk' => ?_
    obtain ⟨w1, w2, hw1, hw2, hv⟩ := hp
    have e1 : w1 = u := by
      rw [show its.toArray[i]? = some u by simpa using hu] at hw1
      exact (Option.some.inj hw1).symm
    have e2 : w2 = u2 := by
      rw [show its2.toArray[i]? = some u2 by simpa using hu2] at hw2
      exact (Option.some.inj hw2).symm
    subst e1 e2 hv
    have nT := W.apart i T h' mid
    obtain ⟨o, ho, hoc, n, hod⟩ := it'
    have hT2 := hk' T o nT ho
    have new : ObjOk X.prog X.w (upd H T (.tup [x, y])) h'' T (.tup [x, y]) := ⟨by show 2 ≤ sizeLine; decide, [w1, w2], .cons ru (.cons ru2 .nil), o, hT2, hoc, n, hod⟩
    have hf' : ∀ c ∈ [z, TO, i1, i2], FpOk X pins H c := fun c hcm => hf c (by
      rcases (show c = z ∨ c = TO ∨ c = i1 ∨ c = i2 by simpa using hcm) with rfl | rfl | rfl | rfl <;> simp)
    have I1 : Inv X pins σ (upd H T (.tup [x, y])) { s with heap := h'', toks := tk } := I.turnedNew (ch := [z, TO, i1, i2]) (fun c ob hb q => hk' c ob hb (hk c ob hb q)) hf' hT new
    obtain ⟨st1, st2, st3, st4, st5⟩ := st''
    refine ⟨.ref T, _, I1, rfl, ⟨T, x, y, rfl, I.hok.fresh hT, rfl, fun zs hzs => by rw [sq_inj I hzs hq1]; exact hx, fun zs hzs => by rw [sq_inj I hzs hq2]; exact hy⟩, ⟨st1, st2, st3, st4.1, st5.1, n1, n2⟩, fun c hcm => ?_⟩
    have hbl : c < s.heap.objs.size := by
      rcases (show c = z ∨ c = TI ∨ c = TO ∨ c = i1 ∨ c = i2 by simpa using hcm) with rfl | rfl | rfl | rfl | rfl
      · exact Heap.lt_size hz
      · exact Heap.lt_size hI
      · obtain ⟨_, _, q⟩ := hO; exact Heap.lt_size q
      · obtain ⟨o, e1, _⟩ := h1.obj; exact Heap.lt_size e1
      · obtain ⟨o, e1, _⟩ := h2.obj; exact Heap.lt_size e1
    rw [upd_ne (Nat.ne_of_lt (Nat.lt_of_lt_of_le hbl hT))]
    exact (hf c hcm).1
  done := by
    intro X hP hw hK hc i pins s σ H E I hf st hg
    subst hP hw hK
    obtain ⟨hz, hI, hO, h1, h2, n1, n2⟩ := st
    obtain ⟨xs, ys, hq1, hq2, hi⟩ := hg
    obtain ⟨its, rv, sa⟩ := sq_at I hq1
    obtain ⟨its2, rv2, sb⟩ := sq_at I hq2
    have l1 := rv.length
    have l2 := rv2.length
    have W := WalksT.zipD2 (prog := X.prog) (w := X.w) (A := X.A) (z := z) (TI := TI) (TO := TO) (i1 := i1) (i2 := i2) (zipSep Z hz sa sb h1 h2 n1 n2) (sq_draws t1 X.A.in1 (I.ok.hd hc) its (sa.ne h1)) (sq_draws t2 X.A.in1 (I.ok.hd hc) its2 (sb.ne h2))
    have hn : i = min its.toArray.size its2.toArray.size := by simp; omega
    subst hn
    have hf' : ∀ c ∈ [z, TO, i1, i2], FpOk X pins H c := fun c hcm => hf c (by
      rcases (show c = z ∨ c = TO ∨ c = i1 ∨ c = i2 by simpa using hcm) with rfl | rfl | rfl | rfl <;> simp)
    exact W.done s _ _ ⟨hz, hI, hO, ⟨h1, sa⟩, ⟨h2, sb⟩⟩ fun h' tk hk => ⟨rfl, I.turnedL (ch := [z, TO, i1, i2]) hk hf'⟩
  self := fun A i s Q E st h => wpAny_pyIter_zip st.1 h
where
  zipSep {h : Heap} {its its2 : List Value} {i : Nat} (Z : Apart z TI TO i1 i2) (hz : IsZip h z TI TO .none) (sa : SqAt t1 h a its) (sb : SqAt t2 h b its2) (h1 : SqIter t1 h i1 a i) (h2 : SqIter t2 h i2 b i) (n1 : TO ≠ a) (n2 : TO ≠ b) : ZipSep2 z TI TO i1 i2 [i1, a] [i2, b] := by
    have za : z ≠ a := by
      rintro rfl
      cases t1 with
      | true =>
        obtain ⟨o', e1, c1, _⟩ := (show h.IsTuple z its.toArray from sa)
        rw [show h.get? z = some _ from hz] at e1; cases e1
        exact absurd (show Value.type "zip" = Value.type "tuple" from c1) (by decide)
      | false =>
        obtain ⟨o', e1, c1, _⟩ := (show h.IsList z its.toArray from sa)
        rw [show h.get? z = some _ from hz] at e1; cases e1
        exact absurd (show Value.type "zip" = Value.type "list" from c1) (by decide)
    have zb : z ≠ b := by
      rintro rfl
      cases t2 with
      | true =>
        obtain ⟨o', e1, c1, _⟩ := (show h.IsTuple z its2.toArray from sb)
        rw [show h.get? z = some _ from hz] at e1; cases e1
        exact absurd (show Value.type "zip" = Value.type "tuple" from c1) (by decide)
      | false =>
        obtain ⟨o', e1, c1, _⟩ := (show h.IsList z its2.toArray from sb)
        rw [show h.get? z = some _ from hz] at e1; cases e1
        exact absurd (show Value.type "zip" = Value.type "list" from c1) (by decide)
    have i1b : i1 ≠ b := by
      rintro rfl
      obtain ⟨o, e, c⟩ := itcls h1
      cases t2 with
      | true =>
        obtain ⟨o', e1, c1, _⟩ := (show h.IsTuple i1 its2.toArray from sb)
        rw [e] at e1; cases e1; rw [c1] at c
        rcases c with c | c <;> exact absurd c (by decide)
      | false =>
        obtain ⟨o', e1, c1, _⟩ := (show h.IsList i1 its2.toArray from sb)
        rw [e] at e1; cases e1; rw [c1] at c
        rcases c with c | c <;> exact absurd c (by decide)
    have i2a : i2 ≠ a := by
      rintro rfl
      obtain ⟨o, e, c⟩ := itcls h2
      cases t1 with
      | true =>
        obtain ⟨o', e1, c1, _⟩ := (show h.IsTuple i2 its.toArray from sa)
        rw [e] at e1; cases e1; rw [c1] at c
        rcases c with c | c <;> exact absurd c (by decide)
      | false =>
        obtain ⟨o', e1, c1, _⟩ := (show h.IsList i2 its.toArray from sa)
        rw [e] at e1; cases e1; rw [c1] at c
        rcases c with c | c <;> exact absurd c (by decide)
    exact { TIz := Z.TIz, TOz := Z.TOz, TITO := Z.TITO, TIi1 := Z.TIi1, mem1 := by simp, zf1 := by simp [Z.i1z.symm, za], Tf1 := by simp [Z.i1TO.symm, n1], TIi2 := Z.TIi2, mem2 := by simp, zf2 := by simp [Z.i2z.symm, zb], Tf2 := by simp [Z.i2TO.symm, n2], sep1_2 := by simp [Z.i12, i1b], sep2_1 := by simp [Z.i12.symm, i2a] }
  itcls {tp : Bool} {h : Heap} {it c : Addr} {i : Nat} (x : SqIter tp h it c i) : ∃ o, h.get? it = some o ∧ (o.cls = .type "tuple_iterator" ∨ o.cls = .type "list_iterator") := by
    cases tp with
    | true => obtain ⟨o, e, c, _⟩ := (show h.IsTupleIter it _ i from x); exact ⟨o, e, .inl c⟩
    | false => obtain ⟨o, e, c, _⟩ := (show h.IsListIter it _ i from x); exact ⟨o, e, .inr c⟩
theorem iter_zip {pins : List (Addr × Obj)} {s : Shared} {σ : L2.St} {H : Hp} {elts : List Expr} {kk : Nat} {tpos : Pos} {R : L2.It → Hp → Prop} {t1 t2 : Bool} {a b : Addr} {vs ws : List V} (I : Inv X pins σ H s) (sv : Sq X.K t1 H a vs) (sw : Sq X.K t2 H b ws) (q : R (ItZ X.K t1 t2 a b) H) :
    wpAny (model X.prog X.w) X.A (call (.type "zip") [.ref a, .ref b]) (fun v s1 => wpAny (model X.prog X.w) X.A (pyIter v) (PIE X pins σ (.Tuple elts kk tpos) R) X.xe s1) X.xe s := by
  obtain ⟨its, rv, sa⟩ := sq_at I sv
  obtain ⟨its2, rv2, sb⟩ := sq_at I sw
  have lt : ∀ {tp : Bool} {c : Addr} {l : List Value}, SqAt tp s.heap c l → c < s.heap.objs.size := fun {tp c l} x => by
    cases tp with
    | true => obtain ⟨o, e, _⟩ := (show s.heap.IsTuple c l.toArray from x); exact Heap.lt_size e
    | false => obtain ⟨o, e, _⟩ := (show s.heap.IsList c l.toArray from x); exact Heap.lt_size e
  have la := lt sa
  have lb := lt sb
  refine zip_begins2 (sq_begins t1 a its) (sq_begins t2 b its2) sa sb fun h' hz hI hO e1 e2 _ hk => wpAny_pyIter_zip hz ?_
  refine ⟨s.heap.objs.size + 4, [s.heap.objs.size + 4, s.heap.objs.size + 2, s.heap.objs.size + 3, s.heap.objs.size, s.heap.objs.size + 1], _, _, H, rfl, I.kept (t' := s.toks) hk, turn_zipS t1 t2 (new_apart _), ⟨hz, hI, ⟨_, _, hO⟩, itO_iter e1, itO_iter e2, new_ne la, new_ne lb⟩, fp_new I fun c hc => ?_, q⟩
  rcases (show c = s.heap.objs.size + 4 ∨ c = s.heap.objs.size + 2 ∨ c = s.heap.objs.size + 3 ∨ c = s.heap.objs.size ∨ c = s.heap.objs.size + 1 by simpa using hc) with rfl | rfl | rfl | rfl | rfl
  · exact Nat.le_add_right _ _
  · exact Nat.le_add_right _ _
  · exact Nat.le_add_right _ _
  · exact Nat.le_refl _
  · exact Nat.le_add_right _ _
where
  new_apart (N : Nat) : Apart (N + 4 : Nat) (N + 2 : Nat) (N + 3 : Nat) N (N + 1 : Nat) :=
    { TIz := show (N + 2 : Nat) ≠ N + 4 by omega, TOz := show (N + 3 : Nat) ≠ N + 4 by omega, TITO := show (N + 2 : Nat) ≠ N + 3 by omega, TIi1 := show (N + 2 : Nat) ≠ N by omega, TIi2 := show (N + 2 : Nat) ≠ N + 1 by omega, i1z := show (N : Nat) ≠ N + 4 by omega, i2z := show (N + 1 : Nat) ≠ N + 4 by omega, i1TO := show (N : Nat) ≠ N + 3 by omega, i2TO := show (N + 1 : Nat) ≠ N + 3 by omega, i12 := show (N : Nat) ≠ N + 1 by omega }
  new_ne {N : Nat} {c : Addr} (h : c < N) : (N + 3 : Nat) ≠ c := Nat.ne_of_gt (Nat.lt_of_lt_of_le h (Nat.le_add_right N 3))
theorem src_zip {K : PySem.W.Frag} {H : Hp} {μ : List Addr} {t1 t2 : Bool} {a b : Addr} {items items2 : List D} {gs gs2 : Gs} (s : SeqSrc K cl μ H t1 a items gs) (s2 : SeqSrc K cl μ H t2 b items2 gs2) : Srcs K cl μ H (ItZ K t1 t2 a b) (pairs items items2) (gs ++ gs2) := by
  intro i H' μ' h' g ok
  obtain ⟨vs, sv, rv⟩ := s.later H' μ' h' g fun p hp => ok p (List.mem_append_left _ hp)
  obtain ⟨ws, sw, rw'⟩ := s2.later H' μ' h' g fun p hp => ok p (List.mem_append_right _ hp)
  have l1 := rv.length
  have l2 := rw'.length
  refine ⟨fun d e => ?_, fun e => ⟨vs, ws, sv, sw, by rw [e]; simp [pairs, l1, l2]⟩⟩
  have hi : ∃ x y, items[i]? = some x ∧ items2[i]? = some y ∧ d = .tup [x, y] := by
    unfold pairs at e
    rw [List.getElem?_map] at e
    cases q : (items.zip items2)[i]? with
    | none => rw [q] at e; cases e
    | some p =>
      rw [q] at e; cases e
      obtain ⟨e1, e2⟩ := List.getElem?_zip_eq_some.mp q
      exact ⟨p.1, p.2, e1, e2, rfl⟩
  obtain ⟨y1, y2, ey1, ey2, rfl⟩ := hi
  obtain ⟨v, ev, r⟩ := rv.get ey1
  obtain ⟨u, eu, ru⟩ := rw'.get ey2
  refine ⟨⟨vs, ws, v, u, sv, sw, ev, eu⟩, fun x H'' yl => ?_⟩
  obtain ⟨T, z, z2, rfl, nT, rfl, hz, hz2⟩ := yl
  have q := hz vs sv
  rw [ev] at q; cases q
  have q := hz2 ws sw
  rw [eu] at q; cases q
  exact ⟨.new g.rh nT, Rl.tup_iff.mpr ⟨T, _, rfl, .of upd_same, Rls.two_iff.mpr ⟨_, _, rfl, r.mono (Tp.upd_new nT) List.prefix_rfl, ru.mono (Tp.upd_new nT) List.prefix_rfl⟩⟩⟩

/-! ### reversed -/
def ItR (K : PySem.W.Frag) (tp : Bool) (a : Addr) (n : Nat) : L2.It := if tp = true then RT.ItvT K a n else Itv K a n
theorem src_rev {K : PySem.W.Frag} {H : Hp} {μ : List Addr} {tp : Bool} {a : Addr} {items : List D} {gs : Gs} {n : Nat} (hn : n = items.length) (s : SeqSrc K cl μ H tp a items gs) : Srcs K cl μ H (ItR K tp a n) items.reverse gs := by
  intro i H' μ' h' g ok
  obtain ⟨vs, sv, rv⟩ := s.later H' μ' h' g ok
  have len := rv.length
  have get : ∀ d, items.reverse[i]? = some d → i < n ∧ ∃ v, vs[n - 1 - i]? = some v ∧ Rl K cl H' μ' d v := fun d e => by
    have hi : i < items.length := by
      have := (List.getElem?_eq_some_iff.mp e).1
      simpa using this
    rw [List.getElem?_reverse hi] at e
    obtain ⟨v, ev, r⟩ := rv.get e
    exact ⟨by omega, v, by rw [hn]; exact ev, r⟩
  cases tp with
  | true =>
    refine ⟨fun d e => ?_, fun e => by show n ≤ i; rw [e]; simp [hn]⟩
    obtain ⟨hi, v, ev, r⟩ := get d e
    refine ⟨⟨hi, vs, v, sv, ev⟩, fun x H'' y => ?_⟩
    obtain ⟨rfl, y⟩ := y
    have q := y vs sv
    rw [ev] at q; cases q
    exact ⟨.refl g.rh, r⟩
  | false =>
    refine ⟨fun d e => ?_, fun e => by show n ≤ i; rw [e]; simp [hn]⟩
    obtain ⟨hi, v, ev, r⟩ := get d e
    refine ⟨⟨hi, vs, v, sv, ev⟩, fun x H'' y => ?_⟩
    obtain ⟨rfl, y⟩ := y
    have q := y vs sv
    rw [ev] at q; cases q
    exact ⟨.refl g.rh, r⟩

/-! ### ranges -/
theorem src_up {K : PySem.W.Frag} {H : Hp} {μ : List Addr} {lo : Int} {n : Nat} : Srcs K cl μ H (Itr lo n) (upFrom lo n) [] := by
  intro i H' μ' h' g ok
  refine ⟨fun d e => ?_, fun e => by show n ≤ i; rw [e]; simp [upFrom]⟩
  have hi : i < n := by
    have := (List.getElem?_eq_some_iff.mp e).1
    simpa [upFrom] using this
  refine ⟨hi, fun x H'' y => ?_⟩
  obtain ⟨rfl, rfl⟩ := y
  simp [upFrom, hi] at e
  subst e
  exact ⟨.refl g.rh, Rl.int_iff.mpr rfl⟩
theorem src_down {K : PySem.W.Frag} {H : Hp} {μ : List Addr} {hi : Int} {n : Nat} : Srcs K cl μ H (Itc hi (-1) n) (downFrom hi n) [] := by
  intro i H' μ' h' g ok
  refine ⟨fun d e => ?_, fun e => by show n ≤ i; rw [e]; simp [downFrom]⟩
  have hi : i < n := by
    have := (List.getElem?_eq_some_iff.mp e).1
    simpa [downFrom] using this
  refine ⟨hi, fun x H'' y => ?_⟩
  obtain ⟨rfl, rfl⟩ := y
  simp only [downFrom, List.getElem?_map, List.getElem?_range hi, Option.map_some, Option.some.injEq] at e
  subst e
  exact ⟨.refl g.rh, Rl.int_iff.mpr rfl⟩
end
end HS

/-! Each construct does what the evaluator tells. -/
namespace HS
open PySem L2 PyProof.Rows

/-! ### weaker readings -/
section
variable {X : Cx}
theorem wkE {e : Expr} {t t' : TE} (h : PE X e t) (w : ∀ σ H Q, t' σ H Q → t σ H Q) : PE X e t' := ⟨fun pins s σ H Q I q => h.run pins s σ H Q I (w σ H Q q)⟩
theorem wkT {e : Expr} {t t' : TT} (h : PT X e t) (w : ∀ σ H Q, t' σ H Q → t σ H Q) : PT X e t' := ⟨fun pins s σ H Q I q => h.run pins s σ H Q I (w σ H Q q)⟩
theorem wkW {e : Expr} {t t' : TT} (h : PW X e t) (w : ∀ σ H Q, t' σ H Q → t σ H Q) : PW X e t' := ⟨fun wh pins s σ H Q I q => h.run wh pins s σ H Q I (w σ H Q q)⟩
theorem wkA {e : List Expr} {t t' : TA} (h : PA X e t) (w : ∀ σ H Q, t' σ H Q → t σ H Q) : PA X e t' := ⟨fun pos pins s σ H Q I q => h.run pos pins s σ H Q I (w σ H Q q)⟩
theorem wkO {e : Option Expr} {t t' : TO} (h : PO X e t) (w : ∀ σ H Q, t' σ H Q → t σ H Q) : PO X e t' := ⟨fun pins s σ H Q I q => h.run pins s σ H Q I (w σ H Q q)⟩
theorem wkI {tg e : Expr} {t t' : TI} (h : PI X tg e t) (w : ∀ σ H Q, t' σ H Q → t σ H Q) : PI X tg e t' := ⟨fun pins s σ H Q I q => h.run pins s σ H Q I (w σ H Q q)⟩
theorem wkS {st : Stmt} {t t' : TS} (h : PS X st t) (w : ∀ D σ H, t' D σ H → t D σ H) : PS X st t' := ⟨fun pins s σ H D I q => h.run pins s σ H D I (w D σ H q)⟩
theorem wkSs {st : List Stmt} {t t' : TS} (h : PSs X st t) (w : ∀ D σ H, t' D σ H → t D σ H) : PSs X st t' := ⟨fun pins s σ H D I q => h.run pins s σ H D I (w D σ H q)⟩
theorem wkG {tg : Expr} {t t' : TG} (h : PG X tg t) (w : ∀ v σ H Q, t' v σ H Q → t v σ H Q) : PG X tg t' := ⟨fun pins s σ H v u Q I r q => h.run pins s σ H v u Q I r (w v σ H Q q)⟩
theorem wkGs {tg : List Expr} {t t' : TGs} (h : PGs X tg t) (w : ∀ v σ H Q, t' v σ H Q → t v σ H Q) : PGs X tg t' := ⟨fun pins s σ H v u Q I r q => h.run pins s σ H v u Q I r (w v σ H Q q)⟩
end

/-- an expression's own shape: no star, no slice, no set display, no generator -/
def plainX : Expr → Bool
  | .Name .. | .Constant .. | .BinOp .. | .UnaryOp .. | .Compare .. | .BoolOp .. | .IfExp .. | .Call .. | .Attribute .. | .Subscript .. | .Tuple .. | .List .. | .Dict .. | .ListComp .. | .Lambda .. => true
  | _ => false
/-- no comprehension, too -/
def plainV : Expr → Bool
  | .Name .. | .Constant .. | .BinOp .. | .UnaryOp .. | .Compare .. | .BoolOp .. | .IfExp .. | .Call .. | .Attribute .. | .Subscript .. | .Tuple .. | .List .. | .Dict .. | .Lambda .. => true
  | _ => false
/-- as a test it is just its truth -/
def plainB : Expr → Bool
  | .Name .. | .Constant .. | .BinOp .. | .Call .. | .Attribute .. | .Subscript .. | .ListComp .. => true
  | _ => false
theorem star_cons {e : Expr} {es : List Expr} {env : Env} (h : plainX e = true) : starEach (e :: es) env = (false, eval e env) :: starEach es env := by
  cases e <;> first | rfl | (simp [plainX] at h)
theorem back_plain {pos : Pos} {env : Env} : ∀ {es : List Expr}, es.all plainX = true → (backTo pos (starEach es env)).any (·.1) = false
  | [], _ => rfl
  | e :: es, h => by
    simp only [List.all_cons, Bool.and_eq_true] at h
    rw [star_cons h.1]
    exact back_plain (pos := pos) h.2
theorem sub_plain {b : Expr} (h : plainX b = true) : PlainIx b := by
  intro o i
  cases b <;> first | rfl | (simp [plainX] at h)
theorem mark_plain {b : Expr} {op : CmpOp} (h : plainX b = true) : behindInMarks op b = false := by
  cases b <;> first | rfl | (simp [plainX] at h)
theorem swap_plain {e : Expr} {t : Option Expr} {l : Nat} {env : Env} (h : plainV e = true) : swapsWith e t l env = pure false := by
  cases e <;> first | rfl | (simp [plainV] at h)
theorem fold_plain {e : Expr} {env : Env} {x : Value} (h : plainX e = true) : foldedSetIterable e env x = pure x := by
  cases e <;> first | rfl | (simp [plainX] at h)
theorem plainV_X {e : Expr} (h : plainV e = true) : plainX e = true := by
  cases e <;> first | rfl | (simp [plainV] at h)

section
variable {X : Cx} {cl : Md} {W : WX} {m ma mb mc : En → Hh → R D} {a b c : Expr} {pos : Pos}
/-! ### the simple ones -/
theorem sVal {e : Expr} {v : V} {d : D} (h : PE X e (tC v)) (r : ∀ H μ, Rl X.K cl H μ d v) : PE X e (tE X.K cl W fun _ h => .ok d h) :=
  wkE h fun σ H Q ⟨μ, ρ, h, re, rh, pg⟩ => pg.val rh (r H μ)
theorem sVar {i : Nat} {x : Str} (hN : X.N[i]? = some x) (hv : Vis X.env.scope x) (hd : (x == ("__debug__" : Str)) = false) (hcd : (x == ("__classdict__" : Str)) = false) :
    PE X (.Name x pos) (tE X.K cl W fun ρ h => match ρ[i]? with | some (some d) => .ok d h | _ => .bad) := by
  refine wkE (pe_var hN hv hd hcd) fun σ H Q hh => ?_
  obtain ⟨μ, ρ, h, re, rh, pg⟩ := hh
  dsimp only at pg
  split at pg
  · rename_i d e
    obtain ⟨v, e1, r⟩ := re.at_ i d e
    exact ⟨v, e1, pg.val rh r⟩
  · exact pg.elim
theorem sBin {o : BO} (ha : PE X a (tE X.K cl W ma)) (hb : PE X b (tE X.K cl W mb)) : PE X (.BinOp a (boOf o) b pos) (tE X.K cl W fun ρ h => (ma ρ h).bind fun x h => (mb ρ h).bind fun y h => bop o x y h) := by
  refine wkE (pe_op (opr_bop (cl := cl) o) ha hb) fun σ H Q ⟨μ, ρ, h, re, rh, pg⟩ => ⟨μ, ρ, h, re, rh, pg.bind.imp (fun x h1 μ1 H1 g1 p1 v rv => ?_) fun _ _ _ _ _ w => w⟩
  exact ⟨μ1, ρ, h1, re.mono g1.tp g1.pre, g1.rh, p1.bind.imp (fun y h2 μ2 H2 g2 p2 u ru => ⟨μ2, h2, x, y, _, g2.rh, rv.mono g2.tp g2.pre, ru, p2⟩) fun _ _ _ _ _ w => w⟩
theorem sCmp {o : CmpOp} (hu : X.A.units + 65 < cLine) (sy : SysOk X.base) (hp : plainX b = true) (ha : PE X a (tE X.K cl W ma)) (hb : PE X b (tE X.K cl W mb)) :
    PE X (.Compare a [o] [b] pos) (tE X.K cl W fun ρ h => (ma ρ h).bind fun x h => (mb ρ h).bind fun y h => cmpD o x y h) := by
  refine wkE (pe_cmpR (opr_cmp (cl := cl) hu sy o) ha hb (mark_plain hp)) fun σ H Q ⟨μ, ρ, h, re, rh, pg⟩ => ⟨μ, ρ, h, re, rh, pg.bind.imp (fun x h1 μ1 H1 g1 p1 v rv => ?_) fun _ _ _ _ _ w => w⟩
  exact ⟨μ1, ρ, h1, re.mono g1.tp g1.pre, g1.rh, p1.bind.imp (fun y h2 μ2 H2 g2 p2 u ru => ⟨μ2, h2, x, y, _, g2.rh, rv.mono g2.tp g2.pre, ru, p2⟩) fun _ _ _ _ _ w => w⟩
theorem sCmpT {o : CmpOp} (hu : X.A.units + 65 < cLine) (sy : SysOk X.base) (hp : plainX b = true) (ha : PE X a (tE X.K cl W ma)) (hb : PE X b (tE X.K cl W mb)) :
    PT X (.Compare a [o] [b] pos) (tT X.K cl W fun ρ h => ((ma ρ h).bind fun x h => (mb ρ h).bind fun y h => cmpD o x y h).bind asBl) := by
  refine wkT (pt_cmpR (opr_cmp (cl := cl) hu sy o) ha hb (mark_plain hp)) fun σ H Q ⟨μ, ρ, h, re, rh, pg⟩ => ?_
  have pg := pg.bind
  refine ⟨μ, ρ, h, re, rh, pg.bind.imp (fun x h1 μ1 H1 g1 p1 v rv => ?_) fun _ _ _ _ _ w => w⟩
  refine ⟨μ1, ρ, h1, re.mono g1.tp g1.pre, g1.rh, p1.bind.imp (fun y h2 μ2 H2 g2 p2 u ru => ⟨μ2, h2, x, y, _, g2.rh, rv.mono g2.tp g2.pre, ru, p2.imp (fun d h3 μ3 H3 g3 p3 z rz => ?_) fun _ _ _ _ _ w => w⟩) fun _ _ _ _ _ w => w⟩
  unfold asBl at p3
  split at p3
  · rw [Rl.bl_iff] at rz
    exact ⟨_, rz, p3 μ3 H3 (.refl g3.rh)⟩
  · exact p3.elim
theorem sNeg (ha : PE X a (tE X.K cl W ma)) : PE X (.UnaryOp .USub a pos) (tE X.K cl W fun ρ h => (ma ρ h).bind fun x h => match x with | .int i => .ok (.int (-i)) h | _ => .bad) := by
  refine wkE (pe_un un_neg ha) fun σ H Q ⟨μ, ρ, h, re, rh, pg⟩ => ⟨μ, ρ, h, re, rh, pg.bind.imp (fun x h1 μ1 H1 g1 p1 v rv => ?_) fun _ _ _ _ _ w => w⟩
  split at p1
  · rw [Rl.int_iff] at rv
    exact ⟨_, rv, p1.val g1.rh (Rl.int_iff.mpr rfl)⟩
  · exact p1.elim
theorem sNot (ha : PE X a (tE X.K cl W ma)) : PE X (.UnaryOp .Not a pos) (tE X.K cl W fun ρ h => (ma ρ h).bind fun x h => match x with | .bl b => .ok (.bl (!b)) h | _ => .bad) := by
  refine wkE (pe_not ha) fun σ H Q ⟨μ, ρ, h, re, rh, pg⟩ => ⟨μ, ρ, h, re, rh, pg.bind.imp (fun x h1 μ1 H1 g1 p1 v rv => ?_) fun _ _ _ _ _ w => w⟩
  split at p1
  · rw [Rl.bl_iff] at rv
    exact ⟨_, rv, p1.val g1.rh (Rl.bl_iff.mpr rfl)⟩
  · exact p1.elim
/-- two tests one behind the other, as values -/
theorem sAnd {rest : List Expr} (ha : PE X a (tE X.K cl W ma)) (hb : PE X (.BoolOp .And (b :: rest) pos) (tE X.K cl W mb)) :
    PE X (.BoolOp .And (a :: b :: rest) pos) (tE X.K cl W fun ρ h => (ma ρ h).bind fun x h => match x with | .bl true => mb ρ h | .bl false => .ok (.bl false) h | _ => .bad) := by
  refine wkE (pe_and ha hb) fun σ H Q ⟨μ, ρ, h, re, rh, pg⟩ => ⟨μ, ρ, h, re, rh, pg.bind.imp (fun x h1 μ1 H1 g1 p1 v rv => ?_) fun _ _ _ _ _ w => w⟩
  split at p1
  · rw [Rl.bl_iff] at rv
    refine ⟨_, rv, ?_⟩
    rw [if_pos rfl]
    exact ⟨μ1, ρ, h1, re.mono g1.tp g1.pre, g1.rh, p1⟩
  · rw [Rl.bl_iff] at rv
    refine ⟨_, rv, ?_⟩
    rw [if_neg (by decide)]
    exact p1.val g1.rh (Rl.bl_iff.mpr rfl)
  · exact p1.elim
theorem sOr {rest : List Expr} (ha : PE X a (tE X.K cl W ma)) (hb : PE X (.BoolOp .Or (b :: rest) pos) (tE X.K cl W mb)) :
    PE X (.BoolOp .Or (a :: b :: rest) pos) (tE X.K cl W fun ρ h => (ma ρ h).bind fun x h => match x with | .bl false => mb ρ h | .bl true => .ok (.bl true) h | _ => .bad) := by
  refine wkE (pe_or ha hb) fun σ H Q ⟨μ, ρ, h, re, rh, pg⟩ => ⟨μ, ρ, h, re, rh, pg.bind.imp (fun x h1 μ1 H1 g1 p1 v rv => ?_) fun _ _ _ _ _ w => w⟩
  split at p1
  · rw [Rl.bl_iff] at rv
    refine ⟨_, rv, ?_⟩
    rw [if_neg (by decide)]
    exact ⟨μ1, ρ, h1, re.mono g1.tp g1.pre, g1.rh, p1⟩
  · rw [Rl.bl_iff] at rv
    refine ⟨_, rv, ?_⟩
    rw [if_pos rfl]
    exact p1.val g1.rh (Rl.bl_iff.mpr rfl)
  · exact p1.elim
/-- .. as tests -/
theorem sAndT {rest : List Expr} {mb : En → Hh → R D} (ha : PT X a (tT X.K cl W fun ρ h => (ma ρ h).bind asBl)) (hb : PW X (.BoolOp .And (b :: rest) pos) (tT X.K cl W fun ρ h => (mb ρ h).bind asBl)) :
    PW X (.BoolOp .And (a :: b :: rest) pos) (tT X.K cl W fun ρ h => ((ma ρ h).bind fun x h => match x with | .bl true => mb ρ h | .bl false => .ok (.bl false) h | _ => .bad).bind asBl) := by
  refine wkW (pw_and ha hb) fun σ H Q ⟨μ, ρ, h, re, rh, pg⟩ => ⟨μ, ρ, h, re, rh, ?_⟩
  dsimp only at pg ⊢
  cases e : ma ρ h with
  | bad => rw [e] at pg; exact pg
  | ex x h1 => rw [e] at pg; exact pg
  | ok x h1 =>
    rw [e] at pg
    cases x with
    | bl t =>
      intro μ1 H1 g1
      have p1 := Pg.far g1 pg
      cases t with
      | true =>
        rw [if_pos rfl]
        exact ⟨μ1, ρ, h1, re.mono g1.tp g1.pre, g1.rh, p1⟩
      | false =>
        rw [if_neg (by decide)]
        exact p1 μ1 H1 (.refl g1.rh)
    | _ => exact pg
theorem sOrT {rest : List Expr} {mb : En → Hh → R D} (ha : PT X a (tT X.K cl W fun ρ h => (ma ρ h).bind asBl)) (hb : PW X (.BoolOp .Or (b :: rest) pos) (tT X.K cl W fun ρ h => (mb ρ h).bind asBl)) :
    PW X (.BoolOp .Or (a :: b :: rest) pos) (tT X.K cl W fun ρ h => ((ma ρ h).bind fun x h => match x with | .bl false => mb ρ h | .bl true => .ok (.bl true) h | _ => .bad).bind asBl) := by
  refine wkW (pw_or ha hb) fun σ H Q ⟨μ, ρ, h, re, rh, pg⟩ => ⟨μ, ρ, h, re, rh, ?_⟩
  dsimp only at pg ⊢
  cases e : ma ρ h with
  | bad => rw [e] at pg; exact pg
  | ex x h1 => rw [e] at pg; exact pg
  | ok x h1 =>
    rw [e] at pg
    cases x with
    | bl t =>
      intro μ1 H1 g1
      have p1 := Pg.far g1 pg
      cases t with
      | true =>
        rw [if_pos rfl]
        exact p1 μ1 H1 (.refl g1.rh)
      | false =>
        rw [if_neg (by decide)]
        exact ⟨μ1, ρ, h1, re.mono g1.tp g1.pre, g1.rh, p1⟩
    | _ => exact pg
theorem sNotT (ha : PT X a (tT X.K cl W fun ρ h => (ma ρ h).bind asBl)) : PT X (.UnaryOp .Not a pos) (tT X.K cl W fun ρ h => ((ma ρ h).bind fun x h => match x with | .bl b => .ok (.bl (!b)) h | _ => .bad).bind asBl) := by
  refine wkT (pt_not ha) fun σ H Q ⟨μ, ρ, h, re, rh, pg⟩ => ⟨μ, ρ, h, re, rh, ?_⟩
  dsimp only at pg ⊢
  cases e : ma ρ h with
  | bad => rw [e] at pg; exact pg
  | ex x h1 => rw [e] at pg; exact pg
  | ok x h1 =>
    rw [e] at pg
    cases x with
    | bl t => exact fun μ1 H1 g1 => pg μ1 H1 g1
    | _ => exact pg
theorem sValT (hp : plainB a = true) (ha : PE X a (tE X.K cl W ma)) : PT X a (tT X.K cl W fun ρ h => (ma ρ h).bind asBl) := by
  refine wkT (pt_val ha (fun _ => by cases a <;> first | rfl | (simp [plainB] at hp))) fun σ H Q ⟨μ, ρ, h, re, rh, pg⟩ => ⟨μ, ρ, h, re, rh, pg.bind.imp (fun x h1 μ1 H1 g1 p1 v rv => ?_) fun _ _ _ _ _ w => w⟩
  unfold asBl at p1
  split at p1
  · rw [Rl.bl_iff] at rv
    exact ⟨_, rv, p1 μ1 H1 (.refl g1.rh)⟩
  · exact p1.elim
theorem sIfe (hc : PT X c (tT X.K cl W fun ρ h => (mc ρ h).bind asBl)) (ha : PE X a (tE X.K cl W ma)) (hb : PE X b (tE X.K cl W mb)) :
    PE X (.IfExp c a b pos) (tE X.K cl W fun ρ h => (mc ρ h).bind fun x h => match x with | .bl true => ma ρ h | .bl false => mb ρ h | _ => .bad) := by
  refine wkE (pe_ifExp hc ha hb) fun σ H Q ⟨μ, ρ, h, re, rh, pg⟩ => ⟨μ, ρ, h, re, rh, ?_⟩
  dsimp only at pg ⊢
  cases e : mc ρ h with
  | bad => rw [e] at pg; exact pg
  | ex x h1 => rw [e] at pg; exact pg
  | ok x h1 =>
    rw [e] at pg
    cases x with
    | bl t =>
      intro μ1 H1 g1
      have p1 := Pg.far g1 pg
      cases t with
      | true => rw [if_pos rfl]; exact ⟨μ1, ρ, h1, re.mono g1.tp g1.pre, g1.rh, p1⟩
      | false => rw [if_neg (by decide)]; exact ⟨μ1, ρ, h1, re.mono g1.tp g1.pre, g1.rh, p1⟩
    | _ => exact pg
theorem sCmp2 {o p : CmpOp} (hu : X.A.units + 65 < cLine) (sy : SysOk X.base) (hb' : plainX b = true) (hc' : plainX c = true) (ha : PE X a (tE X.K cl W ma)) (hb : PE X b (tE X.K cl W mb)) (hc : PE X c (tE X.K cl W mc)) :
    PE X (.Compare a [o, p] [b, c] pos) (tE X.K cl W fun ρ h => (ma ρ h).bind fun x h => (mb ρ h).bind fun y h => (cmpD o x y h).bind fun r h => match r with
      | .bl true => (mc ρ h).bind fun z h => cmpD p y z h
      | .bl false => .ok (.bl false) h
      | _ => .bad) := by
  refine wkE (pe_chain (opr_cmp (cl := cl) hu sy o) (opr_cmp (cl := cl) hu sy p) ha hb hc (by show behindInMarks p c = false; exact mark_plain hc')) fun σ H Q ⟨μ, ρ, h, re, rh, pg⟩ => ⟨μ, ρ, h, re, rh, pg.bind.imp (fun x h1 μ1 H1 g1 p1 v rv => ?_) fun _ _ _ _ _ w => w⟩
  refine ⟨μ1, ρ, h1, re.mono g1.tp g1.pre, g1.rh, p1.bind.imp (fun y h2 μ2 H2 g2 p2 u ru => ⟨μ2, h2, x, y, _, g2.rh, rv.mono g2.tp g2.pre, ru, p2.bind.imp (fun r h3 μ3 H3 g3 p3 w rw' => ?_) fun _ _ _ _ _ w => w⟩) fun _ _ _ _ _ w => w⟩
  split at p3
  · rw [Rl.bl_iff] at rw'
    refine ⟨_, rw', ?_⟩
    rw [if_pos rfl]
    exact ⟨μ3, ρ, h3, (re.mono g1.tp g1.pre).mono (g2.tp.trans g3.tp) (g2.pre.trans g3.pre), g3.rh, p3.bind.imp (fun z h4 μ4 H4 g4 p4 t rt => ⟨μ4, h4, y, z, _, g4.rh, ru.mono (g3.tp.trans g4.tp) (g3.pre.trans g4.pre), rt, p4⟩) fun _ _ _ _ _ w => w⟩
  · rw [Rl.bl_iff] at rw'
    refine ⟨_, rw', ?_⟩
    rw [if_neg (by decide)]
    exact p3.val g3.rh (Rl.bl_iff.mpr rfl)
  · exact p3.elim
theorem sCmp2T {o p : CmpOp} (hu : X.A.units + 65 < cLine) (sy : SysOk X.base) (hb' : plainX b = true) (hc' : plainX c = true) (ha : PE X a (tE X.K cl W ma)) (hb : PE X b (tE X.K cl W mb)) (hc : PE X c (tE X.K cl W mc)) :
    PT X (.Compare a [o, p] [b, c] pos) (tT X.K cl W fun ρ h => ((ma ρ h).bind fun x h => (mb ρ h).bind fun y h => (cmpD o x y h).bind fun r h => match r with
      | .bl true => (mc ρ h).bind fun z h => cmpD p y z h
      | .bl false => .ok (.bl false) h
      | _ => .bad).bind asBl) := by
  have fin : ∀ {Q : Bool → Hp → Prop} {d : D} {h3 : Hh} {μ3 : List Addr} {H3 : Hp} {z : V} {Wx}, RlH X.K cl H3 μ3 h3 → Pg X.K cl μ3 H3 (asBl d h3) (fun b _ _ H' => Q b H') Wx → Rl X.K cl H3 μ3 d z → ∃ k, z = .bl k ∧ Q k H3 := fun {Q d h3 μ3 H3 z Wx} r p q => by
    unfold asBl at p
    split at p
    · rw [Rl.bl_iff] at q
      exact ⟨_, q, p μ3 H3 (.refl r)⟩
    · exact p.elim
  refine wkT (pt_chain (opr_cmp (cl := cl) hu sy o) (opr_cmp (cl := cl) hu sy p) ha hb hc (by show behindInMarks p c = false; exact mark_plain hc')) fun σ H Q ⟨μ, ρ, h, re, rh, pg⟩ => ?_
  have pg := pg.bind
  refine ⟨μ, ρ, h, re, rh, pg.bind.imp (fun x h1 μ1 H1 g1 p1 v rv => ?_) fun _ _ _ _ _ w => w⟩
  refine ⟨μ1, ρ, h1, re.mono g1.tp g1.pre, g1.rh, p1.bind.imp (fun y h2 μ2 H2 g2 p2 u ru => ⟨μ2, h2, x, y, _, g2.rh, rv.mono g2.tp g2.pre, ru, p2.bind.imp (fun r h3 μ3 H3 g3 p3 w rw' => ?_) fun _ _ _ _ _ w => w⟩) fun _ _ _ _ _ w => w⟩
  split at p3
  · rw [Rl.bl_iff] at rw'
    refine ⟨_, rw', ?_⟩
    rw [if_pos rfl]
    exact ⟨μ3, ρ, h3, (re.mono g1.tp g1.pre).mono (g2.tp.trans g3.tp) (g2.pre.trans g3.pre), g3.rh, p3.bind.imp (fun z h4 μ4 H4 g4 p4 t rt => ⟨μ4, h4, y, z, _, g4.rh, ru.mono (g3.tp.trans g4.tp) (g3.pre.trans g4.pre), rt, p4.imp (fun d h5 μ5 H5 g5 p5 t2 rt2 => fin g5.rh p5 rt2) fun _ _ _ _ _ w => w⟩) fun _ _ _ _ _ w => w⟩
  · rw [Rl.bl_iff] at rw'
    refine ⟨_, rw', ?_⟩
    rw [if_neg (by decide)]
    exact fin g3.rh (p3 μ3 H3 (.refl g3.rh)) (Rl.bl_iff.mpr rfl)
  · exact p3.elim
/-! ### displays, arguments -/
theorem sNil : PA X [] (tA X.K cl W fun _ h => .ok [] h) := wkA pa_nil fun σ H Q ⟨μ, ρ, h, re, rh, pg⟩ => pg μ H (.refl rh) _ (Rls.nil.mpr rfl)
theorem sCons {es : List Expr} {ms : En → Hh → R (List D)} (hp : plainX a = true) (ha : PE X a (tE X.K cl W ma)) (hs : PA X es (tA X.K cl W ms)) :
    PA X (a :: es) (tA X.K cl W fun ρ h => (ma ρ h).bind fun x h => (ms ρ h).bind fun xs h => .ok (x :: xs) h) := by
  refine wkA (pa_cons ha hs (star_cons hp)) fun σ H Q ⟨μ, ρ, h, re, rh, pg⟩ => ⟨μ, ρ, h, re, rh, pg.bind.imp (fun x h1 μ1 H1 g1 p1 v rv => ?_) fun _ _ _ _ _ w => w⟩
  exact ⟨μ1, ρ, h1, re.mono g1.tp g1.pre, g1.rh, p1.bind.imp (fun xs h2 μ2 H2 g2 p2 vs rvs => p2 μ2 H2 (.refl g2.rh) _ (Rls.cons.mpr ⟨v, vs, rfl, rv.mono g2.tp g2.pre, rvs⟩)) fun _ _ _ _ _ w => w⟩
theorem sTup {es : List Expr} {ms : En → Hh → R (List D)} {k : Nat} (hs : PA X es (tA X.K cl W ms)) : PE X (.Tuple es k pos) (tE X.K cl W fun ρ h => (ms ρ h).bind fun xs h => if lineOk xs.length then .ok (.tup xs) h else .bad) := by
  refine wkE (pe_tup hs) fun σ H Q ⟨μ, ρ, h, re, rh, pg⟩ => ⟨μ, ρ, h, re, rh, pg.bind.imp (fun xs h1 μ1 H1 g1 p1 vs rv => ?_) fun _ _ _ _ _ w => w⟩
  split at p1
  · rename_i hl
    have hl := lineOk_le hl
    rw [rv.length] at hl
    exact ⟨hl, fun p np => p1.tup g1.rh rv np⟩
  · exact p1.elim
theorem sLst {es : List Expr} {ms : En → Hh → R (List D)} (hs : PA X es (tA X.K cl W ms)) : PE X (.List es pos) (tE X.K cl W fun ρ h => (ms ρ h).bind fun xs h => if lineOk xs.length then alloc (.lst xs) h else .bad) := by
  refine wkE (pe_lst hs) fun σ H Q ⟨μ, ρ, h, re, rh, pg⟩ => ⟨μ, ρ, h, re, rh, pg.bind.imp (fun xs h1 μ1 H1 g1 p1 vs rv => ?_) fun _ _ _ _ _ w => w⟩
  split at p1
  · rename_i hl
    have hl := lineOk_le hl
    rw [rv.length] at hl
    exact ⟨hl, fun p np => p1.lst g1.rh rv np⟩
  · exact p1.elim
theorem sDic : PE X (.Dict [] [] pos) (tE X.K cl W fun _ h => alloc (.dic []) h) := by
  refine wkE pe_dnewK fun σ H Q ⟨μ, ρ, h, re, rh, pg⟩ p np => ?_
  refine pg (μ ++ [p]) _ (.alloc rh np ⟨rfl, upd_same⟩) _ (Rl.ref_iff.mpr ⟨p, rfl, ?_⟩)
  rw [← rh.len]
  simp
/-! ### subscripts, slices -/
theorem sIdx (hp : plainX b = true) (ha : PE X a (tE X.K cl W ma)) (hb : PE X b (tE X.K cl W mb)) : PE X (.Subscript a b pos) (tE X.K cl W fun ρ h => (ma ρ h).bind fun x h => (mb ρ h).bind fun y h => ixD x y h) := by
  refine wkE (pe_ix (ixr (cl := cl)) ha hb (sub_plain hp)) fun σ H Q ⟨μ, ρ, h, re, rh, pg⟩ => ⟨μ, ρ, h, re, rh, pg.bind.imp (fun x h1 μ1 H1 g1 p1 v rv => ?_) fun _ _ _ _ _ w => w⟩
  exact ⟨μ1, ρ, h1, re.mono g1.tp g1.pre, g1.rh, p1.bind.imp (fun y h2 μ2 H2 g2 p2 u ru => ⟨μ2, h2, x, y, _, g2.rh, rv.mono g2.tp g2.pre, ru, p2⟩) fun _ _ _ _ _ w => w⟩
theorem sNo : PO X none (tO X.K cl W fun _ h => .ok none h) := wkO po_none fun σ H Q ⟨μ, ρ, h, re, rh, pg⟩ => pg μ H (.refl rh)
theorem sSo (ha : PE X a (tE X.K cl W ma)) : PO X (some a) (tO X.K cl W fun ρ h => (ma ρ h).bind fun x h => getI x h) := by
  refine wkO (po_some ha) fun σ H Q ⟨μ, ρ, h, re, rh, pg⟩ => ⟨μ, ρ, h, re, rh, pg.bind.imp (fun x h1 μ1 H1 g1 p1 v rv => ?_) fun _ _ _ _ _ w => w⟩
  unfold getI at p1
  split at p1
  · rw [Rl.int_iff] at rv
    exact ⟨_, rv, p1 μ1 H1 (.refl g1.rh)⟩
  · exact p1.elim
theorem sSlc {lo hi : Option Expr} {ml mh : En → Hh → R (Option Int)} {p2 : Pos} (ha : PE X a (tE X.K cl W ma)) (hl : PO X lo (tO X.K cl W ml)) (hh : PO X hi (tO X.K cl W mh)) :
    PE X (.Subscript a (.Slice lo hi none p2) pos) (tE X.K cl W fun ρ h => (ma ρ h).bind fun x h => (ml ρ h).bind fun l h => (mh ρ h).bind fun u h => slD x l u h) := by
  refine wkE (pe_slice (slr (cl := cl)) ha hl hh) fun σ H Q ⟨μ, ρ, h, re, rh, pg⟩ => ⟨μ, ρ, h, re, rh, pg.bind.imp (fun x h1 μ1 H1 g1 p1 v rv => ?_) fun _ _ _ _ _ w => w⟩
  refine ⟨μ1, ρ, h1, re.mono g1.tp g1.pre, g1.rh, p1.bind.imp (fun l h2 μ2 H2 g2 p2 => ?_) fun _ _ _ _ _ w => w⟩
  exact ⟨μ2, ρ, h2, (re.mono g1.tp g1.pre).mono g2.tp g2.pre, g2.rh, p2.bind.imp (fun u h3 μ3 H3 g3 p3 => ⟨μ3, h3, x, _, g3.rh, rv.mono (g2.tp.trans g3.tp) (g2.pre.trans g3.pre), p3⟩) fun _ _ _ _ _ w => w⟩
end
end HS

/-! Calls, comprehensions, targets, statements. -/
namespace HS
open PySem L2 PyProof.Rows

/-- a def's promise by the evaluator -/
def spF (K : PySem.W.Frag) (cl : Md) (m : Fn) : Sp := fun vs H Q E => ∃ μ h ds, RlH K cl H μ h ∧ Rls K cl H μ ds vs ∧ Pg K cl μ H (m ds h) (VP K cl Q) (fun e _ μ' H' => ∀ c dd, RlX K cl H' μ' e c dd → E c dd H')
/-- the def at f keeps it, wherever nothing is being written out -/
structure FnG (P : Program) (w : World) (K : PySem.W.Frag) (mg : Str → Option Value) (base : Heap) (k : Nat) (f : Addr) (fd : FuncData) (ps : List Str) (sp : Sp) : Prop where
  len : ∀ vs H Q E, sp vs H Q E → vs.length = ps.length
  run : ∀ (A : Around) (outer : List Env) (s : Shared) (H : Hp) (args : Args) (us : List Value) (vs : List V) (Q : VK) (E : XK), A.guards = some [] → Room k A → Env0 P w K mg base A outer s H → BindsTo s fd args (ps.zip us) → Vals vs us → sp vs H Q E →
    codeAny (model P w) A (.call (.ref f) args) (CR (L2.CX P w) outer P w H s Q E) s
theorem FnG.mono {P : Program} {w : World} {K : PySem.W.Frag} {mg : Str → Option Value} {base : Heap} {j k : Nat} {f : Addr} {fd : FuncData} {ps : List Str} {sp : Sp} (F : FnG P w K mg base j f fd ps sp) (h : j ≤ k) : FnG P w K mg base k f fd ps sp :=
  ⟨F.len, fun A outer s H args us vs Q E hg hr => F.run A outer s H args us vs Q E hg (hr.mono h)⟩

section
variable {X : Cx} {cl : Md} {W : WX} {m ma mb mc : En → Hh → R D} {a b c : Expr} {pos : Pos}
/-- the callee runs -/
theorem run_g {pins : List (Addr × Obj)} {σ : L2.St} {H : Hp} {s : Shared} {Q : VK} {args : Args} {us : List Value} {vs : List V} {k : Nat} {f : Addr} {fd : FuncData} {ps : List Str} {mf : Fn} (F : FnG X.prog X.w X.K X.mg X.base k f fd ps (spF X.K cl mf)) (hg : X.A.guards = some []) (hr : Room k X.A) (tk : Takes X W)
    (I : Inv X pins σ H s) (hb : BindsTo s fd args (ps.zip us)) (r : Vals vs us) (h : spF X.K cl mf vs H Q (fun c dd H' => W c dd σ H')) : wpAny (model X.prog X.w) X.A (call (.ref f) args.pos args.kw) (EP X pins σ Q) X.xe s := by
  refine wpAny_call (codeAny_mono (F.run X.A X.stack s H args us vs Q _ hg hr I.env0 hb r h) fun r s' q => ?_)
  cases r with
  | error e => exact tk e s' (XE.of_call I (fun _ _ _ z => z) q)
  | ok fl =>
    cases fl with
    | ret u => exact I.after q
    | next => exact False.elim q
    | brk => exact False.elim q
    | cont => exact False.elim q
/-- what is known of a def that is called -/
structure Cal (X : Cx) (cl : Md) (k : Nat) (x : Str) (ps : List Str) (mf : Fn) (f : Addr) (fd : FuncData) : Prop where
  fn : FnG X.prog X.w X.K X.mg X.base k f fd ps (spF X.K cl mf)
  mg : X.mg x = some (.ref f)
  kp : PySem.W.keepIn X.K (.ref f) = true
  bd : ∀ (s : Shared) (us : List Value), us.length = ps.length → BindsTo s fd ⟨us, []⟩ (ps.zip us)
theorem sCall {k : Nat} {f : Addr} {fd : FuncData} {ps : List Str} {mf : Fn} {x : Str} {p : Pos} {e : Expr} {es : List Expr} {ms : En → Hh → R (List D)} (F : Cal X cl k x ps mf f fd) (hg : X.A.guards = some []) (hr : Room k X.A) (tk : Takes X W)
    (hx : Gl X x) (hd : (x == ("__debug__" : Str)) = false) (hp : (e :: es).all plainX = true) (hs : PA X (e :: es) (tA X.K cl W ms)) :
    PE X (.Call (.Name x p) (e :: es) [] pos) (tE X.K cl W fun ρ h => (ms ρ h).bind fun xs h => mf xs h) := by
  refine ⟨fun pins s σ H Q I ⟨μ, ρ, h, re, rh, pg⟩ => ?_⟩
  refine wpAny_Call_Name_kw (ld_glob I hx F.mg ?_ hd)
  have arg : wpAny (model X.prog X.w) X.A (spliced (backTo pos (starEach (e :: es) X.env))) (AP X pins σ fun vs H1 => spF X.K cl mf vs H1 Q fun c dd H' => W c dd σ H') X.xe s :=
    hs.run pos pins s σ H _ I ⟨μ, ρ, h, re, rh, pg.bind.imp (fun xs h1 μ1 H1 g1 p1 vs rv => ⟨μ1, h1, xs, g1.rh, rv, p1⟩) fun _ _ _ _ _ w => w⟩
  simp only [List.all_cons, Bool.and_eq_true] at hp
  refine PySem.W.callWith_K (h₀ := X.base) I.ok.mod.kin F.kp (thn arg fun us s1 ⟨vs, H1, I1, r, q⟩ => ⟨I1.kIn, ?_⟩) (star_cons hp.1) (back_plain hp.2)
  have hl := F.fn.len _ _ _ _ q
  exact run_g F.fn hg hr tk I1 (F.bd s1 us (by rw [← r.length]; exact hl)) r q
theorem sCall0 {k : Nat} {f : Addr} {fd : FuncData} {ps : List Str} {mf : Fn} {x : Str} {p : Pos} (F : Cal X cl k x ps mf f fd) (hg : X.A.guards = some []) (hr : Room k X.A) (tk : Takes X W)
    (hx : Gl X x) (hd : (x == ("__debug__" : Str)) = false) : PE X (.Call (.Name x p) [] [] pos) (tE X.K cl W fun _ h => mf [] h) := by
  refine ⟨fun pins s σ H Q I ⟨μ, ρ, h, re, rh, pg⟩ => ?_⟩
  refine wpAny_Call_Name_kw (ld_glob I hx F.mg ?_ hd)
  have q : spF X.K cl mf [] H Q (fun c dd H' => W c dd σ H') := ⟨μ, h, [], rh, Rls.nil.mpr rfl, pg⟩
  have hl := F.fn.len _ _ _ _ q
  exact PySem.W.callWith_K0 I.kIn F.kp (run_g (us := []) F.fn hg hr tk I (F.bd s [] (by simpa using hl)) .nil q)
theorem sKNil : PK X [] (tA X.K cl W fun _ h => .ok [] h) := ⟨fun pos pins s σ H Q I ⟨μ, ρ, h, re, rh, pg⟩ => pk_nil.run pos pins s σ H Q I (pg μ H (.refl rh) _ (Rls.nil.mpr rfl))⟩
theorem sKCons {ks : List Keyword} {nm : Option Str} {kpos : Pos} {ms : En → Hh → R (List D)} (ha : PE X a (tE X.K cl W ma)) (hs : PK X ks (tA X.K cl W ms)) :
    PK X (⟨nm, a, kpos⟩ :: ks) (tA X.K cl W fun ρ h => (ma ρ h).bind fun x h => (ms ρ h).bind fun xs h => .ok (x :: xs) h) := by
  refine ⟨fun pos pins s σ H Q I ⟨μ, ρ, h, re, rh, pg⟩ => (pk_cons ha hs).run pos pins s σ H Q I ⟨μ, ρ, h, re, rh, pg.bind.imp (fun x h1 μ1 H1 g1 p1 v rv => ?_) fun _ _ _ _ _ w => w⟩⟩
  exact ⟨μ1, ρ, h1, re.mono g1.tp g1.pre, g1.rh, p1.bind.imp (fun xs h2 μ2 H2 g2 p2 vs rvs => p2 μ2 H2 (.refl g2.rh) _ (Rls.cons.mpr ⟨v, vs, rfl, rv.mono g2.tp g2.pre, rvs⟩)) fun _ _ _ _ _ w => w⟩
/-- how keywords bind -/
def KwOk (fd : FuncData) (ps nm : List Str) (np : Nat) (idx : List Nat) : Prop :=
  ∀ (s : Shared) (us ws : List Value), us.length = np → ws.length = nm.length → BindsTo s fd ⟨us, nm.zip ws⟩ (ps.zip (us ++ idx.map fun i => ws.getD i .none))
theorem Rls.pick {K : PySem.W.Frag} {H : Hp} {μ : List Addr} {ds : List D} {vs : List V} (r : Rls K cl H μ ds vs) : ∀ idx : List Nat, idx.all (· < ds.length) = true → Rls K cl H μ (idx.map fun i => ds.getD i .non) (idx.map fun i => vs.getD i .non)
  | [], _ => Rls.nil.mpr rfl
  | i :: idx, h => by
    simp only [List.all_cons, Bool.and_eq_true, decide_eq_true_eq] at h
    obtain ⟨v, ev, rv⟩ := r.get (show ds[i]? = some ds[i] by simp [h.1])
    rw [List.map_cons, List.map_cons, Rls.cons]
    refine ⟨_, _, rfl, ?_, Rls.pick r idx (by simpa using h.2)⟩
    rw [List.getD_eq_getElem?_getD, List.getD_eq_getElem?_getD, ev]
    simp [h.1]
    exact rv
theorem vals_pick {vs : List V} {us : List Value} (r : Vals vs us) : ∀ idx : List Nat, idx.all (· < vs.length) = true → Vals (idx.map fun i => vs.getD i .non) (idx.map fun i => us.getD i .none)
  | [], _ => .nil
  | i :: idx, h => by
    simp only [List.all_cons, Bool.and_eq_true, decide_eq_true_eq] at h
    obtain ⟨u, eu, ru⟩ := r.get (show vs[i]? = some vs[i] by simp [h.1])
    refine .cons ?_ (vals_pick r idx (by simpa using h.2))
    show RelV (vs.getD i .non) (us.getD i .none)
    rw [List.getD_eq_getElem?_getD, List.getD_eq_getElem?_getD, eu]
    simp [h.1]
    exact ru
theorem sCallk {k np : Nat} {f : Addr} {fd : FuncData} {ps nm : List Str} {idx : List Nat} {mf : Fn} {x : Str} {p : Pos} {es : List Expr} {ks : List Keyword} {ms mk : En → Hh → R (List D)} (F : Cal X cl k x ps mf f fd) (kw : KwOk fd ps nm np idx) (hg : X.A.guards = some []) (hr : Room k X.A) (tk : Takes X W)
    (hx : Gl X x) (hd : (x == ("__debug__" : Str)) = false) (hp : es.all plainX = true) (hnp : es.length = np) (hnm : ks.map (·.arg) = nm.map some) (hidx : idx.all (· < nm.length) = true) (hm0 : es = [] → ms = fun _ h => .ok [] h) (hms : ∀ ρ h xs h', ms ρ h = .ok xs h' → xs.length = es.length) (hmk : ∀ ρ h xs h', mk ρ h = .ok xs h' → xs.length = ks.length)
    (hs : PA X es (tA X.K cl W ms)) (hk : PK X ks (tA X.K cl W mk)) :
    PE X (.Call (.Name x p) es ks pos) (tE X.K cl W fun ρ h => (ms ρ h).bind fun xs h => (mk ρ h).bind fun ys h => mf (xs ++ idx.map fun i => ys.getD i .non) h) := by
  have nmz : ∀ (ks : List Keyword) (nm : List Str), ks.map (·.arg) = nm.map some → (backToKw pos (keywordEach ks X.env)).all (·.1.isSome) = true ∧ (backToKw pos (keywordEach ks X.env)).filterMap (·.1) = nm ∧ (backToKw pos (keywordEach ks X.env)).any (·.1.isNone) = false := by
    intro ks
    induction ks with
    | nil =>
      intro nm h
      cases nm with
      | nil => exact ⟨rfl, rfl, rfl⟩
      | cons _ _ => simp at h
    | cons q ks ih =>
      intro nm h
      cases nm with
      | nil => simp at h
      | cons y nm =>
        simp only [List.map_cons, List.cons.injEq] at h
        obtain ⟨h1, h2, h3⟩ := ih nm h.2
        obtain ⟨an, v, kp⟩ := q
        have e : an = some y := h.1
        subst e
        exact ⟨h1, congrArg (y :: ·) h2, h3⟩
  obtain ⟨n1, n2, n3⟩ := nmz ks nm hnm
  have lks : ks.length = nm.length := by simpa using congrArg List.length hnm
  refine ⟨fun pins s σ H Q I ⟨μ, ρ, h, re, rh, pg⟩ => ?_⟩
  refine wpAny_Call_Name_kw (ld_glob I hx F.mg ?_ hd)
  have pg := pg.bind
  have fin : ∀ {us ws : List Value} {vs zs : List V} {s2 : Shared} {H2 : Hp}, Inv X pins σ H2 s2 → Vals vs us → Vals zs ws → vs.length = np → zs.length = nm.length → spF X.K cl mf (vs ++ idx.map fun i => zs.getD i .non) H2 Q (fun c dd H' => W c dd σ H') → wpAny (model X.prog X.w) X.A (call (.ref f) us (nm.zip ws)) (EP X pins σ Q) X.xe s2 :=
    fun {us ws vs zs s2 H2} I2 r rz l1 l2 q => run_g (args := ⟨us, nm.zip ws⟩) F.fn hg hr tk I2 (kw s2 us ws (by rw [← r.length]; exact l1) (by rw [← rz.length]; exact l2)) (r.append (vals_pick rz idx (by rw [l2]; exact hidx))) q
  have kws : ∀ {us : List Value} {vs : List V} {s1 : Shared} {H1 : Hp} {xs : List D} {h1 : Hh} {μ1 : List Addr}, Inv X pins σ H1 s1 → Vals vs us → xs.length = np → RlE X.K cl H1 μ1 σ ρ → RlH X.K cl H1 μ1 h1 → Rls X.K cl H1 μ1 xs vs →
      Pg X.K cl μ1 H1 ((mk ρ h1).bind fun ys h => mf (xs ++ idx.map fun i => ys.getD i .non) h) (VP X.K cl Q) (wX X.K cl W σ) →
      wpAny (model X.prog X.w) X.A (evalAll ((backToKw pos (keywordEach ks X.env)).map (·.2))) (fun ws s2 => X.K.In s2.heap ∧ wpAny (model X.prog X.w) X.A (call (.ref f) us (nm.zip ws)) (EP X pins σ Q) X.xe s2) X.xe s1 := by
    intro us vs s1 H1 xs h1 μ1 I1 r lx re1 rh1 rv p1
    have ly : ∀ ys h2, mk ρ h1 = .ok ys h2 → ys.length = nm.length := fun ys h2 e => by rw [← lks]; exact hmk _ _ _ _ e
    refine thn (hk.run pos pins s1 σ H1 (fun zs H2 => zs.length = nm.length ∧ spF X.K cl mf (vs ++ idx.map fun i => zs.getD i .non) H2 Q (fun c dd H' => W c dd σ H')) I1 ⟨μ1, ρ, h1, re1, rh1, ?_⟩) fun ws s2 ⟨zs, H2, I2, rz, lz, q⟩ => ⟨I2.kIn, fin I2 r rz (by rw [← rv.length]; exact lx) lz q⟩
    cases e : mk ρ h1 with
    | bad => rw [e] at p1; exact p1
    | ex x h2 => rw [e] at p1; exact p1
    | ok ys h2 =>
      have l := ly ys h2 e
      rw [e] at p1
      intro μ2 H2 g2 zs rz
      refine ⟨by rw [← rz.length]; exact l, μ2, h2, _, g2.rh, (rv.mono g2.tp g2.pre).append (rz.pick idx (by rw [l]; exact hidx)), ?_⟩
      exact Pg.far g2 p1
  cases es with
  | nil =>
    refine PySem.W.callWith_KW0 (h₀ := X.base) I.ok.mod.kin F.kp n1 ?_ (by show (false || _) = false; rw [n3]; rfl)
    rw [n2]
    rw [hm0 rfl] at pg
    exact kws I .nil hnp re rh (Rls.nil.mpr rfl) (pg μ H (.refl rh))
  | cons e es =>
    simp only [List.all_cons, Bool.and_eq_true] at hp
    refine PySem.W.callWith_KW (h₀ := X.base) I.ok.mod.kin F.kp n1 ?_ (by rw [back_plain (by simpa using hp), n3]; rfl) (star_cons hp.1)
    rw [n2]
    refine thn (hs.run pos pins s σ H (fun vs H1 => ∃ xs h1 μ1, xs.length = np ∧ RlE X.K cl H1 μ1 σ ρ ∧ RlH X.K cl H1 μ1 h1 ∧ Rls X.K cl H1 μ1 xs vs ∧ Pg X.K cl μ1 H1 ((mk ρ h1).bind fun ys h => mf (xs ++ idx.map fun i => ys.getD i .non) h) (VP X.K cl Q) (wX X.K cl W σ)) I ⟨μ, ρ, h, re, rh, ?_⟩) fun us s1 ⟨vs, H1, I1, r, xs, h1, μ1, lx, re1, rh1, rv, p1⟩ => kws I1 r lx re1 rh1 rv p1
    cases q : ms ρ h with
    | bad => rw [q] at pg; exact pg
    | ex x h1 => rw [q] at pg; exact pg
    | ok xs h1 =>
      rw [q] at pg
      exact fun μ1 H1 g1 vs rv => ⟨xs, h1, μ1, by rw [← hnp]; exact hms _ _ _ _ q, re.mono g1.tp g1.pre, g1.rh, rv, pg μ1 H1 g1⟩
/-! ### built-in functions -/
/-- the name of a built-in function -/
def bfN : BF → Str
  | .len => "len" | .abs => "abs" | .int => "int" | .divmod => "divmod" | .gcd => "gcd" | .tuple => "tuple" | .list => "list" | .sum => "sum" | .max => "max" | .min => "min" | .all => "all" | .any => "any" | .range => "range" | .repr => "repr" | .sorted => "sorted" | .comb => "comb"
/-- where it is found: math's functions are names of the module -/
def BfOk (mg : Str → Option Value) (b : BF) : Prop :=
  match b with
  | .gcd => mg "gcd" = some (.builtin "math.gcd")
  | .comb => False
  | b => mg (bfN b) = none
theorem boot_bf : ∀ b : BF, b ≠ .gcd → b ≠ .comb → bootBuiltins (bfN b) = some (bfV b) := by
  intro b h1 h2
  cases b <;> first | exact absurd rfl h1 | exact absurd rfl h2 | decide +kernel
theorem sBlt {f : BF} {p : Pos} {es : List Expr} {ms : En → Hh → R (List D)} (hc : X.calm = true) (hg : X.A.guards = some []) (hu : X.A.units + 65 < cLine) (sy : SysOk X.base) (ok : BfOk X.mg f) (hx : Gl X (bfN f)) (hp : (a :: es).all plainX = true) (hs : PA X (a :: es) (tA X.K cl W ms)) :
    PE X (.Call (.Name (bfN f) p) (a :: es) [] pos) (tE X.K cl W fun ρ h => (ms ρ h).bind fun xs h => bltD f xs h) := by
  simp only [List.all_cons, Bool.and_eq_true] at hp
  have s1 := star_cons (es := es) (env := X.env) hp.1
  have s2 := back_plain (pos := pos) (env := X.env) hp.2
  have key : PE X (.Call (.Name (bfN f) p) (a :: es) [] pos) (tCB (tBL X.K cl (bltD f)) (tA X.K cl W ms)) := by
    by_cases h1 : f = .gcd
    · subst h1
      exact pe_callBfun (callr hc hg hu sy .gcd) hx ok hs (by decide) s1 s2
    · by_cases h2 : f = .comb
      · subst h2; exact ok.elim
      · have ok' : X.mg (bfN f) = none := by
          cases f <;> first | exact ok | exact absurd rfl h1 | exact absurd rfl h2
        have bt := boot_bf f h1 h2
        have cr := callr (cl := cl) hc hg hu sy f
        cases f <;> first
          | exact absurd rfl h1
          | exact absurd rfl h2
          | exact pe_callB cr hx ok' bt hs (by decide) (by decide) s1 s2
          | exact pe_callTy cr hx ok' bt hs (by decide) (by decide) s1 s2
  refine wkE key fun σ H Q ⟨μ, ρ, h, re, rh, pg⟩ => ⟨μ, ρ, h, re, rh, pg.bind.imp (fun xs h1 μ1 H1 g1 p1 vs rv => ⟨μ1, h1, xs, _, g1.rh, rv, p1⟩) fun _ _ _ _ _ w => w⟩
theorem sIsi {n : String} {p p2 : Pos} {nm : Str} (hx : Gl X "isinstance") (hm : X.mg "isinstance" = none) (hn : Gl X nm) (hmn : X.mg nm = none) (hbn : bootBuiltins nm = some (.type n)) (hnn : nm ≠ "__name__") (hnd : (nm == ("__debug__" : Str)) = false) (hp : plainX a = true) (ha : PE X a (tE X.K cl W ma)) :
    PE X (.Call (.Name "isinstance" p) [a, .Name nm p2] [] pos) (tE X.K cl W fun ρ h => (ma ρ h).bind fun x h => isiD h x (.b n)) := by
  have st : starEach [a, .Name nm p2] X.env = (false, eval a X.env) :: starEach [.Name nm p2] X.env := star_cons hp
  refine wkE (pe_callB (callr_isi (cl := cl) n) hx hm (by decide +kernel) (pa_cons ha (pa_cons (pe_bltn (v := .ty n) hn hmn hbn rfl hnn hnd) pa_nil (by rfl)) st) (by decide) (by decide) st (by rfl)) fun σ H Q ⟨μ, ρ, h, re, rh, pg⟩ => ⟨μ, ρ, h, re, rh, pg.bind.imp (fun x h1 μ1 H1 g1 p1 v rv => ?_) fun _ _ _ _ _ w => w⟩
  exact ⟨v, μ1, h1, x, _, rfl, g1.rh, rv, p1⟩
/-- l.append(x) -/
theorem sApp {l : Expr} {apos : Pos} {ml : En → Hh → R D} (hbase : attributeBase l "append" X.env (eval l X.env) = eval l X.env) (hline : (apos.endLine == pos.line) = true) (hp : plainX a = true) (hl : PE X l (tE X.K cl W ml)) (ha : PE X a (tE X.K cl W ma)) :
    PE X (.Call (.Attribute l "append" apos) [a] [] pos) (tE X.K cl W fun ρ h => (ml ρ h).bind fun x h => (lstOk x h).bind fun x h => (ma ρ h).bind fun y h => app x y h) := by
  have st : starEach [a] X.env = (false, eval a X.env) :: starEach [] X.env := star_cons hp
  refine wkE (pe_bm PySem.F.plainAttrs_list PySem.F.slot_list_append PySem.F.type_list_append (mtr_append (cl := cl)) hl (pa_cons ha pa_nil st) hbase (by rw [st]; rfl) hline st (by rfl)) fun σ H Q ⟨μ, ρ, h, re, rh, pg⟩ => ?_
  refine ⟨μ, ρ, h, re, rh, pg.bind.imp (fun x h1 μ1 H1 g1 p1 v rv => ?_) fun _ _ _ _ _ w => w⟩
  unfold lstOk at p1
  split at p1
  · split at p1
    · rename_i n _ xs ex
      obtain ⟨q, ws, rfl, m, s1, r1⟩ := g1.rh.lst ex rv
      refine ⟨.inl ⟨rfl, ws, .of s1⟩, μ1, ρ, h1, re.mono g1.tp g1.pre, g1.rh, (p1.bind μ1 H1 (.refl g1.rh)).bind.imp (fun y h2 μ2 H2 g2 p2 u ru => ?_) fun _ _ _ _ _ w => w⟩
      exact ⟨u, μ2, h2, .ref n, y, _, rfl, g2.rh, rv.mono g2.tp g2.pre, ru, p2⟩
    · exact p1.elim
  · exact p1.elim
end
end HS

/-! Loops' sources, targets, comprehensions. -/
namespace HS
open PySem L2 PyProof.Rows
section
variable {X : Cx} {cl : Md} {W : WX} {m ma mb mc : En → Hh → R D} {a b c tg : Expr} {pos : Pos}
/-! ### sources -/
theorem sPln (ha : PE X a (tE X.K cl W ma)) : PI X tg a (tI X.K cl W fun ρ h => (ma ρ h).bind fun x h => itemsD x h) := by
  refine ⟨fun pins s σ H R I ⟨μ, ρ, h, re, rh, pg⟩ => ?_⟩
  refine thn (ha.run pins s σ H (fun v H1 => ∃ μ1 h1 x, RlH X.K cl H1 μ1 h1 ∧ Rl X.K cl H1 μ1 x v ∧ Pg X.K cl μ1 H1 (itemsD x h1) (fun p _ μ' H' => ∀ J, Srcs X.K cl μ' H' J p.1 p.2 → R J H') (wX X.K cl W σ)) I ⟨μ, ρ, h, re, rh, pg.bind.imp (fun x h1 μ1 H1 g1 p1 v rv => ⟨μ1, h1, x, g1.rh, rv, p1⟩) fun _ _ _ _ _ w => w⟩) fun u s1 ⟨v, H1, I1, r1, μ1, h1, x, rh1, rv, p1⟩ => ?_
  cases e : itemsD x h1 with
  | bad => rw [e] at p1; exact p1.elim
  | ex _ _ => unfold itemsD at e; split at e <;> first | cases e | (split at e <;> cases e)
  | ok p h2 =>
    obtain ⟨rfl, tp, q, rfl, src⟩ := itemsD_src rh1 rv e
    rw [e] at p1
    cases (show u = Value.ref q from r1)
    obtain ⟨vs, sv, _⟩ := src.here
    exact iter_seq I1 sv (p1 μ1 H1 (.refl rh1) _ (src_seq src))
theorem sRng {p : Pos} {es : List Expr} {ms : En → Hh → R (List D)} (hx : Gl X "range") (hm : X.mg "range" = none) (hp : (a :: es).all plainX = true) (hs : PA X (a :: es) (tA X.K cl W ms)) :
    PI X tg (.Call (.Name "range" p) (a :: es) [] pos) (tI X.K cl W fun ρ h => (ms ρ h).bind fun xs h => rngD xs h) := by
  simp only [List.all_cons, Bool.and_eq_true] at hp
  have lo : ∀ {i : Int}, small62 i = true → -(2 ^ 62) ≤ i ∧ i < 2 ^ 62 := fun h => of_decide_eq_true h
  refine ⟨fun pins s σ H R I ⟨μ, ρ, h, re, rh, pg⟩ => ?_⟩
  refine Call_ (ld_blt I hx hm boot_range (PyProof.Rows.callWith_type1 (thn (hs.run pos pins s σ H (fun vs H1 => ∃ μ1 h1 xs, RlH X.K cl H1 μ1 h1 ∧ Rls X.K cl H1 μ1 xs vs ∧ Pg X.K cl μ1 H1 (rngD xs h1) (fun p _ μ' H' => ∀ J, Srcs X.K cl μ' H' J p.1 p.2 → R J H') (wX X.K cl W σ)) I ⟨μ, ρ, h, re, rh, pg.bind.imp (fun xs h1 μ1 H1 g1 p1 vs rv => ⟨μ1, h1, xs, g1.rh, rv, p1⟩) fun _ _ _ _ _ w => w⟩) fun us s1 ⟨vs, H1, I1, r1, μ1, h1, xs, rh1, rv, p1⟩ => ?_) (star_cons hp.1) (back_plain hp.2)))
  unfold rngD at p1
  split at p1
  · obtain ⟨v, rfl, r2⟩ := Rls.one_iff.mp rv
    rw [Rl.int_iff] at r2; subst r2
    obtain ⟨u, rfl, t, rfl⟩ := vals1 r1
    split at p1
    · rename_i hj
      obtain ⟨q1, q2⟩ := lo hj
      exact call_range_1 (range_it I1 (by omega) (by omega) q1 q2 (by simpa using p1 μ1 H1 (.refl rh1) _ src_up))
    · exact p1.elim
  · obtain ⟨v, w, rfl, r2, r3⟩ := Rls.two_iff.mp rv
    rw [Rl.int_iff] at r2 r3; subst r2 r3
    obtain ⟨u, u2, rfl, ⟨t, rfl⟩, t2, rfl⟩ := vals2 r1
    split at p1
    · rename_i hj
      rw [Bool.and_eq_true] at hj
      obtain ⟨q1, q2⟩ := lo hj.1
      obtain ⟨q3, q4⟩ := lo hj.2
      exact call_range_2 (range_it I1 q1 q2 q3 q4 (p1 μ1 H1 (.refl rh1) _ src_up))
    · exact p1.elim
  · rename_i i j
    obtain ⟨v, vr, rfl, r2, rr⟩ := Rls.cons.mp rv
    obtain ⟨w, z, rfl, r3, r4⟩ := Rls.two_iff.mp rr
    rw [Rl.int_iff] at r2 r3 r4; subst r2 r3 r4
    split at p1
    · rename_i hj
      rw [Bool.and_eq_true] at hj
      obtain ⟨q1, q2⟩ := lo hj.1
      obtain ⟨q3, q4⟩ := lo hj.2
      obtain ⟨c0, c1, c2, c3⟩ := RgC.neg q1 q2 q3 q4
      cases r1 with
      | cons r rr =>
        obtain ⟨t, rfl⟩ := (show ∃ t, _ = Value.int i t from r)
        obtain ⟨u1, u2, rfl, ⟨t', rfl⟩, t'', rfl⟩ := vals2 rr
        refine call_range_3 c0 ?_ (.inl (PyProof.noPylong_small c1))
        refine wpAny_pyIter_range (IsRange.new ..) c2 ?_
        have I2 : Inv X pins σ H1 { s1 with heap := s1.heap.push { cls := .type "range", data := .fields #[.int i t, .int j t', .int (-1) t''] } } := I1.kept (t' := s1.toks) fun b o e => Heap.get?_push_of_some _ e
        refine pi_one (tk := s1.toks) I2 _ (turn_rangeC _ i (-1) (i - j).toNat) ?_ (p1 μ1 H1 (.refl rh1) _ src_down)
        have e1 : i + ((0 : Nat) : Int) * (-1) = i := by simp
        have e2 : (((i - j).toNat : Nat) : Int) - ((0 : Nat) : Int) = Builtin.Range.rangeSize i j (-1) := by rw [c3]; simp
        show IsRangeIter _ _ (i + ((0 : Nat) : Int) * (-1)) ((((i - j).toNat : Nat) : Int) - ((0 : Nat) : Int)) (-1)
        rw [e1, e2]
        exact Heap.get?_push_size _ rfl
    · exact p1.elim
  · exact p1.elim
theorem itemsD_noex {x : D} {h h' : Hh} {e : HS.X} : itemsD x h ≠ .ex e h' := by
  unfold itemsD
  intro q
  split at q <;> first | cases q | (split at q <;> cases q)
theorem sEnm {p tpos : Pos} {elts : List Expr} {kk : Nat} (hx : Gl X "enumerate") (hm : X.mg "enumerate" = none) (hp : plainX a = true) (ha : PE X a (tE X.K cl W ma)) :
    PI X (.Tuple elts kk tpos) (.Call (.Name "enumerate" p) [a] [] pos) (tI X.K cl W fun ρ h => (ma ρ h).bind fun x h => (itemsD x h).bind fun p h => .ok (numbered p.1, p.2) h) := by
  have st : starEach [a] X.env = (false, eval a X.env) :: starEach [] X.env := star_cons hp
  refine ⟨fun pins s σ H R I ⟨μ, ρ, h, re, rh, pg⟩ => ?_⟩
  refine Call_ (ld_blt I hx hm boot_enumerate (PyProof.Rows.callWith_type1 ?_ st (by rfl)))
  rw [st]
  refine Calls.spliced_cons (thn (ha.run pins s σ H (fun v H1 => ∃ μ1 h1 x, RlH X.K cl H1 μ1 h1 ∧ Rl X.K cl H1 μ1 x v ∧ Pg X.K cl μ1 H1 ((itemsD x h1).bind fun p h => .ok (numbered p.1, p.2) h) (fun p _ μ' H' => ∀ J, Srcs X.K cl μ' H' J p.1 p.2 → R J H') (wX X.K cl W σ)) I ⟨μ, ρ, h, re, rh, pg.bind.imp (fun x h1 μ1 H1 g1 p1 v rv => ⟨μ1, h1, x, g1.rh, rv, p1⟩) fun _ _ _ _ _ w => w⟩) fun u s1 ⟨v, H1, I1, r1, μ1, h1, x, rh1, rv, p1⟩ => Calls.spliced_nil ?_)
  cases e : itemsD x h1 with
  | bad => rw [e] at p1; exact p1.elim
  | ex _ _ => exact absurd e itemsD_noex
  | ok p h2 =>
    obtain ⟨rfl, tp, q, rfl, src⟩ := itemsD_src rh1 rv e
    rw [e] at p1
    cases (show u = Value.ref q from r1)
    obtain ⟨vs, sv, _⟩ := src.here
    exact iter_enum I1 sv (p1 μ1 H1 (.refl rh1) _ (src_enum src))
theorem sZip {p tpos : Pos} {elts : List Expr} {kk : Nat} (hx : Gl X "zip") (hm : X.mg "zip" = none) (hp : plainX a = true) (hp' : plainX b = true) (ha : PE X a (tE X.K cl W ma)) (hb : PE X b (tE X.K cl W mb)) :
    PI X (.Tuple elts kk tpos) (.Call (.Name "zip" p) [a, b] [] pos) (tI X.K cl W fun ρ h => (ma ρ h).bind fun x h => (mb ρ h).bind fun y h => (itemsD x h).bind fun p h => (itemsD y h).bind fun q h => .ok (pairs p.1 q.1, p.2 ++ q.2) h) := by
  have st2 : starEach [b] X.env = (false, eval b X.env) :: starEach [] X.env := star_cons hp'
  have st : starEach [a, b] X.env = (false, eval a X.env) :: starEach [b] X.env := star_cons hp
  refine ⟨fun pins s σ H R I ⟨μ, ρ, h, re, rh, pg⟩ => ?_⟩
  refine Call_ (ld_blt I hx hm PyProof.Rows.boot_zip (PyProof.Rows.callWith_type1 ?_ st (by rw [st2]; rfl)))
  refine thn ((pa_cons ha (pa_cons hb pa_nil st2) st).run pos pins s σ H (fun vs H1 => ∃ μ1 h1 x y v u, vs = [v, u] ∧ RlH X.K cl H1 μ1 h1 ∧ Rl X.K cl H1 μ1 x v ∧ Rl X.K cl H1 μ1 y u ∧ Pg X.K cl μ1 H1 ((itemsD x h1).bind fun p h => (itemsD y h).bind fun q h => .ok (pairs p.1 q.1, p.2 ++ q.2) h) (fun p _ μ' H' => ∀ J, Srcs X.K cl μ' H' J p.1 p.2 → R J H') (wX X.K cl W σ)) I
    ⟨μ, ρ, h, re, rh, pg.bind.imp (fun x h1 μ1 H1 g1 p1 v rv => ⟨μ1, ρ, h1, re.mono g1.tp g1.pre, g1.rh, p1.bind.imp (fun y h2 μ2 H2 g2 p2 u ru => ⟨μ2, h2, x, y, v, u, rfl, g2.rh, rv.mono g2.tp g2.pre, ru, p2⟩) fun _ _ _ _ _ w => w⟩) fun _ _ _ _ _ w => w⟩) fun us s1 ⟨vs, H1, I1, r1, μ1, h1, x, y, v, u, ev, rh1, rv, ru, p1⟩ => ?_
  subst ev
  obtain ⟨w1, w2, rfl, q1, q2⟩ := vals2 r1
  cases e : itemsD x h1 with
  | bad => rw [e] at p1; exact p1.elim
  | ex _ _ => exact absurd e itemsD_noex
  | ok p h2 =>
    obtain ⟨rfl, tp, q, rfl, src⟩ := itemsD_src rh1 rv e
    rw [e] at p1
    cases e' : itemsD y h2 with
    | bad => simp only [HS.R.bind_ok, e'] at p1; exact p1.elim
    | ex _ _ => exact absurd e' itemsD_noex
    | ok p' h3 =>
      obtain ⟨rfl, tp', q', rfl, src'⟩ := itemsD_src rh1 ru e'
      simp only [HS.R.bind_ok, e'] at p1
      cases (show w1 = Value.ref q from q1)
      cases (show w2 = Value.ref q' from q2)
      obtain ⟨vs, sv, _⟩ := src.here
      obtain ⟨ws, sw, _⟩ := src'.here
      exact iter_zip I1 sv sw (p1 μ1 H1 (.refl rh1) _ (src_zip src src'))
theorem sRev {p : Pos} (hx : Gl X "reversed") (hm : X.mg "reversed" = none) (hp : plainX a = true) (ha : PE X a (tE X.K cl W ma)) :
    PI X tg (.Call (.Name "reversed" p) [a] [] pos) (tI X.K cl W fun ρ h => (ma ρ h).bind fun x h => (itemsD x h).bind fun p h => .ok (p.1.reverse, p.2) h) := by
  refine wkI (RT.pi_revA hx hm ha (star_cons hp)) fun σ H R ⟨μ, ρ, h, re, rh, pg⟩ => ⟨μ, ρ, h, re, rh, pg.bind.imp (fun x h1 μ1 H1 g1 p1 v rv => ?_) fun _ _ _ _ _ w => w⟩
  cases e : itemsD x h1 with
  | bad => rw [e] at p1; exact p1.elim
  | ex _ _ => exact absurd e itemsD_noex
  | ok p h2 =>
    obtain ⟨rfl, tp, q, rfl, src⟩ := itemsD_src g1.rh rv e
    rw [e] at p1
    obtain ⟨vs, sv, rs⟩ := src.here
    have k := p1 μ1 H1 (.refl g1.rh) _ (src_rev (n := vs.length) rs.length.symm src)
    cases tp with
    | true => exact ⟨q, vs, rfl, .inr ⟨sv, k⟩⟩
    | false => exact ⟨q, vs, rfl, .inl ⟨sv, k⟩⟩
end
end HS

/-! A range walked from its end. -/
namespace HS
open PySem L2 PyProof.Rows
section
variable {X : Cx} {cl : Md} {W : WX} {a tg : Expr} {pos pos2 : Pos}
/-- a range's two ends -/
def ends (vs : List V) (Q : Int → Int → Prop) : Prop := (∃ j, vs = [.int j] ∧ Q 0 j) ∨ ∃ i j, vs = [.int i, .int j] ∧ Q i j
theorem prgA {p : Pos} {es : List Expr} {ms : En → Hh → R (List D)} (hx : Gl X "range") (hm : X.mg "range" = none) (hp : (a :: es).all plainX = true) (hs : PA X (a :: es) (tA X.K cl W ms)) :
    PRg X (.Call (.Name "range" p) (a :: es) [] pos) (fun σ H Q => tA X.K cl W ms σ H fun vs H1 => ends vs fun i j => Q i j H1) := by
  simp only [List.all_cons, Bool.and_eq_true] at hp
  intro pins s σ H Q I h
  refine Call_ (ld_blt I hx hm boot_range (PyProof.Rows.callWith_type1 (thn (hs.run pos pins s σ H _ I h) fun us s1 ⟨vs, H1, I1, r1, c⟩ => ?_) (star_cons hp.1) (back_plain hp.2)))
  rcases c with ⟨j, rfl, q⟩ | ⟨i, j, rfl, q⟩
  · obtain ⟨u, rfl, t, rfl⟩ := vals1 r1
    exact call_range_1 ⟨_, 0, j, _, _, _, H1, rfl, IsRange.new _ _ _ _ _ _ _, I1.kept fun b u e => Heap.get?_push_of_some _ e, q⟩
  · obtain ⟨u, u2, rfl, ⟨t, rfl⟩, t2, rfl⟩ := vals2 r1
    exact call_range_2 ⟨_, i, j, _, _, _, H1, rfl, IsRange.new _ _ _ _ _ _ _, I1.kept fun b u e => Heap.get?_push_of_some _ e, q⟩
theorem sRrng {p p2 : Pos} {es : List Expr} {ms : En → Hh → R (List D)} (hv : Gl X "reversed") (hmv : X.mg "reversed" = none) (hx : Gl X "range") (hm : X.mg "range" = none) (hp : (a :: es).all plainX = true) (hs : PA X (a :: es) (tA X.K cl W ms)) :
    PI X tg (.Call (.Name "reversed" p) [.Call (.Name "range" p2) (a :: es) [] pos2] [] pos) (tI X.K cl W fun ρ h => (ms ρ h).bind fun xs h => rrngD xs h) := by
  have lo : ∀ {i : Int}, small62 i = true → -(2 ^ 62) ≤ i ∧ i < 2 ^ 62 := fun h => of_decide_eq_true h
  refine ⟨fun pins s σ H R I ⟨μ, ρ, h, re, rh, pg⟩ => ?_⟩
  refine (pi_revR hv hmv (prgA hx hm hp hs) (star_cons rfl)).run pins s σ H R I ⟨μ, ρ, h, re, rh, pg.bind.imp (fun xs h1 μ1 H1 g1 p1 vs rv => ?_) fun _ _ _ _ _ w => w⟩
  unfold rrngD at p1
  split at p1
  · obtain ⟨v, rfl, r2⟩ := Rls.one_iff.mp rv
    rw [Rl.int_iff] at r2; subst r2
    split at p1
    · rename_i hj
      obtain ⟨q1, q2⟩ := lo hj
      refine .inl ⟨_, rfl, by omega, by omega, q1, q2, ?_⟩
      have z := p1 μ1 H1 (.refl g1.rh) _ src_down
      simpa using z
    · exact p1.elim
  · obtain ⟨v, w, rfl, r2, r3⟩ := Rls.two_iff.mp rv
    rw [Rl.int_iff] at r2 r3; subst r2 r3
    split at p1
    · rename_i hj
      rw [Bool.and_eq_true] at hj
      obtain ⟨q1, q2⟩ := lo hj.1
      obtain ⟨q3, q4⟩ := lo hj.2
      exact .inr ⟨_, _, rfl, q1, q2, q3, q4, p1 μ1 H1 (.refl g1.rh) _ src_down⟩
    · exact p1.elim
  · exact p1.elim
end
end HS

/-! Instances: attributes, methods, a new one. -/
namespace HS
open PySem L2 PyProof.Rows
section
variable {K : PySem.W.Frag} {cl : Md} {H H' : Hp} {μ μ' : List Addr}
/-- fields of an instance, name by name -/
theorem fl_look {f : Str} : ∀ {fs : List (Str × D)} {vs : List (Str × V)}, fs.map (·.1) = vs.map (·.1) → Rls K cl H μ (fs.map (·.2)) (vs.map (·.2)) → (∀ d, fs.lookup f = some d → ∃ v, vs.lookup f = some v ∧ Rl K cl H μ d v) ∧ (fs.lookup f = none → vs.lookup f = none)
  | [], [], _, _ => ⟨fun d h => by simp at h, fun _ => rfl⟩
  | [], _ :: _, h, _ => by simp at h
  | _ :: _, [], h, _ => by simp at h
  | (a, d) :: fs, (b, v) :: vs, h, r => by
    simp only [List.map_cons, List.cons.injEq] at h
    obtain ⟨e, h⟩ := h
    have e : a = b := e
    subst e
    simp only [List.map_cons] at r
    rw [Rls.cons] at r
    obtain ⟨v', r', e', r1, r2⟩ := r
    simp only [List.cons.injEq] at e'
    obtain ⟨rfl, rfl⟩ := e'
    obtain ⟨i1, i2⟩ := fl_look (f := f) h r2
    by_cases q : f = a
    · subst q
      refine ⟨fun d' h' => ?_, fun h' => ?_⟩
      · simp only [List.lookup_cons_self, Option.some.injEq] at h' ⊢
        subst h'
        exact ⟨v, rfl, r1⟩
      · simp only [List.lookup_cons_self] at h'
        cases h'
    · have qb : (f == a) = false := by simpa using q
      refine ⟨fun d' h' => ?_, fun h' => ?_⟩
      · simp only [List.lookup, qb] at h' ⊢
        exact i1 d' h'
      · simp only [List.lookup, qb] at h' ⊢
        exact i2 h'
theorem fl_put {f : Str} {d : D} {v : V} (rv : Rl K cl H μ d v) : ∀ {fs : List (Str × D)} {vs : List (Str × V)}, fs.map (·.1) = vs.map (·.1) → Rls K cl H μ (fs.map (·.2)) (vs.map (·.2)) → (putFd f d fs).map (·.1) = (putF f v vs).map (·.1) ∧ Rls K cl H μ ((putFd f d fs).map (·.2)) ((putF f v vs).map (·.2))
  | [], [], _, _ => ⟨rfl, Rls.one rv⟩
  | [], _ :: _, h, _ => by simp at h
  | _ :: _, [], h, _ => by simp at h
  | (a, e) :: fs, (b, u) :: vs, h, r => by
    simp only [List.map_cons, List.cons.injEq] at h
    obtain ⟨e', h⟩ := h
    have e' : a = b := e'
    subst e'
    simp only [List.map_cons] at r
    rw [Rls.cons] at r
    obtain ⟨v', r', e'', r1, r2⟩ := r
    simp only [List.cons.injEq] at e''
    obtain ⟨rfl, rfl⟩ := e''
    by_cases q : a = f
    · simp only [putFd, putF, q, if_true, List.map_cons]
      exact ⟨by rw [h], Rls.cons.mpr ⟨_, _, rfl, rv, r2⟩⟩
    · obtain ⟨i1, i2⟩ := fl_put (f := f) (d := d) (v := v) rv h r2
      simp only [putFd, putF, q, if_false, List.map_cons]
      exact ⟨by rw [i1], Rls.cons.mpr ⟨_, _, rfl, r1, i2⟩⟩
end
/-- what is known of the classes of instances: ats are the names that are read or written -/
def InsK (K : PySem.W.Frag) (cl : Md) (ats : List Str) : Prop := ∀ k C, cl.i k = some C → Cls K C ∧ ∀ f ∈ ats, NoAttr K C f
/-- a method of the class k, x by name -/
structure CalM (X : Cx) (cl : Md) (j k : Nat) (x : Str) (np : Nat) (mf : Fn) : Prop where
  ex : ∃ (C g : Addr) (fd : FuncData) (ps : List Str), ps.length = np ∧ cl.i k = some C ∧ Meth X.K C x g ∧ FnG X.prog X.w X.K X.mg X.base j g fd ps (spF X.K cl mf) ∧ (∀ (s : Shared) (us : List Value), us.length = ps.length → BindsTo s fd ⟨us, []⟩ (ps.zip us))
/-- the class k by its name y, made by the def f -/
structure CalN (X : Cx) (cl : Md) (j k : Nat) (y : Str) (np : Nat) (mf : Fn) : Prop where
  ex : ∃ (C g : Addr) (fd : FuncData) (ps : List Str), ps.length = np ∧ cl.i k = some C ∧ X.mg y = some (.ref C) ∧ Mk X.K C g ∧ FnG X.prog X.w X.K X.mg X.base j g fd ps (spF X.K cl mf) ∧ (∀ (s : Shared) (us : List Value), us.length = ps.length → BindsTo s fd ⟨us, []⟩ (ps.zip us))
theorem mtree {o : Expr} {m : Str} {apos pos : Pos} {args : List Expr} {env : Env} (hb : attributeBase o m env (eval o env) = eval o env) (hp : args.all plainX = true) (hl : args.length < 30) (hln : (apos.endLine == pos.line) = true) :
    eval (.Call (.Attribute o m apos) args [] pos) env = (do
      let ov ← eval o env
      standAt apos.atName
      let (f, first) ← holding [ov] (getMethod ov m (do return (← importBound o env).getD true))
      callWith pos f first (backTo pos (starEach args env)) (backToKw pos (keywordEach [] env))) := by
  refine mcall_of hb fun ov => ?_
  have form : methodCallForm (args.length + ([] : List Keyword).length) (backTo pos (starEach args env)) (backToKw pos (keywordEach [] env)) = true := by
    have b := back_plain (pos := pos) (env := env) hp
    have a : (backTo pos (starEach args env)).all (!·.1) = true := by
      rw [List.all_eq_true]
      intro x hx
      rw [List.any_eq_false] at b
      simpa using b x hx
    unfold methodCallForm
    rw [a]
    have k0 : backToKw pos (keywordEach [] env) = [] := rfl
    rw [k0]
    simp
    omega
  unfold methodCall
  rw [form]
  unfold calleeOf methodCallPos
  simp only [if_true, Bool.not_true, Bool.false_or, hln, pure_bind]
section
variable {X : Cx} {cl : Md} {W : WX} {m ma mb mc : En → Hh → R D} {a b c : Expr} {pos : Pos}
theorem sAtt {f : Str} {ats : List Str} (ik : InsK X.K cl ats) (hf : f ∈ ats) (ha : PE X a (tE X.K cl W ma)) (hb : attributeBase a f X.env (eval a X.env) = eval a X.env) : PE X (.Attribute a f pos) (tE X.K cl W fun ρ h => (ma ρ h).bind fun x h => attD x f h) := by
  refine wkE (pe_fld ha hb) fun σ H Q ⟨μ, ρ, h, re, rh, pg⟩ => ⟨μ, ρ, h, re, rh, pg.bind.imp (fun x h1 μ1 H1 g1 p1 v rv => ?_) fun _ _ _ _ _ w => w⟩
  unfold attD at p1
  split at p1 <;> try exact p1.elim
  rename_i n
  split at p1 <;> try exact p1.elim
  rename_i k fs eh
  split at p1 <;> try exact p1.elim
  rename_i d el
  obtain ⟨a1, rfl, ea⟩ := Rl.ref_iff.mp rv
  obtain ⟨C, dx, vs, q0, q, q1, q2, r⟩ := g1.rh.at_ n _ a1 eh ea
  obtain ⟨v, lv, rv'⟩ := (fl_look (f := f) q2 r).1 d el
  obtain ⟨c1, c2⟩ := ik k C q0
  exact ⟨a1, C, dx, vs, v, rfl, q, c1, c2 f hf, lv, p1.val g1.rh rv'⟩
theorem sBits {apos : Pos} (ha : PE X a (tE X.K cl W ma)) (hb : attributeBase a "bit_length" X.env (eval a X.env) = eval a X.env) (hln : (apos.endLine == pos.line) = true) : PE X (.Call (.Attribute a "bit_length" apos) [] [] pos) (tE X.K cl W fun ρ h => (ma ρ h).bind fun x h => bitD x h) := by
  refine wkE (pe_bits ha hb hln) fun σ H Q ⟨μ, ρ, h, re, rh, pg⟩ => ⟨μ, ρ, h, re, rh, pg.bind.imp (fun x h1 μ1 H1 g1 p1 v rv => ?_) fun _ _ _ _ _ w => w⟩
  unfold bitD at p1
  split at p1 <;> try exact p1.elim
  exact ⟨_, Rl.int_iff.mp rv, p1.val g1.rh (Rl.int_iff.mpr rfl)⟩
theorem sMth {j k np : Nat} {x : Str} {mf : Fn} {apos : Pos} {es : List Expr} {ms : En → Hh → R (List D)} {ats : List Str} (ik : InsK X.K cl ats) (F : CalM X cl j k x np mf) (hg : X.A.guards = some []) (hr : Room j X.A) (tk : Takes X W)
    (hb : attributeBase a x X.env (eval a X.env) = eval a X.env) (hp : es.all plainX = true) (hl : es.length < 30) (hln : (apos.endLine == pos.line) = true) (ha : PE X a (tE X.K cl W ma)) (hs : PA X es (tA X.K cl W ms)) (h0 : es = [] → ms = fun _ h => .ok [] h) :
    PE X (.Call (.Attribute a x apos) es [] pos) (tE X.K cl W fun ρ h => (ma ρ h).bind fun o h => if insOk k x o h = true then (ms ρ h).bind fun xs h => mf (o :: xs) h else .bad) := by
  obtain ⟨C, g, fd, ps, _, hC, hm, hF, hbd⟩ := F.ex
  refine ⟨fun pins s σ H Q I ⟨μ, ρ, h, re, rh, pg⟩ => ?_⟩
  let Wish : VK := fun v H1 => ∃ a1 dx vs, v = .ref a1 ∧ H1 a1 = some (.ins C dx vs) ∧ vs.lookup x = none ∧ tA X.K cl W ms σ H1 (fun ws H2 => spF X.K cl mf (v :: ws) H2 Q fun c dd H' => W c dd σ H')
  have hw : tE X.K cl W ma σ H Wish := ⟨μ, ρ, h, re, rh, pg.bind.imp (fun o h1 μ1 H1 g1 p1 v rv => by
    cases hi : insOk k x o h1 with
    | false => rw [hi] at p1; exact p1.elim
    | true =>
      rw [hi, if_pos rfl] at p1
      unfold insOk at hi
      split at hi
      · rename_i n
        split at hi
        · rename_i j' fs eh
          simp only [Bool.and_eq_true, decide_eq_true_eq] at hi
          obtain ⟨e1, e2⟩ := hi
          subst e1
          obtain ⟨a1, rfl, ea⟩ := Rl.ref_iff.mp rv
          obtain ⟨C', dx, vs, q0, q, q1, q2, r⟩ := g1.rh.at_ n _ a1 eh ea
          rw [hC] at q0
          cases q0
          have ln : fs.lookup x = none := by cases e : fs.lookup x with | none => rfl | some _ => rw [e] at e2; cases e2
          refine ⟨a1, dx, vs, rfl, q, (fl_look (f := x) q2 r).2 ln, μ1, ρ, h1, re.mono g1.tp g1.pre, g1.rh, p1.bind.imp (fun xs h2 μ2 H2 g2 p2 ws rws => ?_) fun _ _ _ _ _ w => w⟩
          exact ⟨μ2, h2, .ref n :: xs, g2.rh, Rls.cons.mpr ⟨_, _, rfl, rv.mono g2.tp g2.pre, rws⟩, p2⟩
        · cases hi
      · cases hi) fun _ _ _ _ _ w => w⟩
  refine PySem.W.methodCall_KW (thn (ha.run pins s σ H Wish I hw) fun u s1 ⟨v, H1, I1, rx, a1, dx, vs, ex, ea, l, q⟩ => ?_) (mtree hb hp hl hln)
  subst ex
  obtain rfl : u = Value.ref a1 := rx
  refine getmeth_ok I1 ea (ik k C hC).1 hm l ?_
  cases es with
  | nil =>
    rw [h0 rfl] at q
    obtain ⟨μ2, ρ2, h2, _, rh2, q2⟩ := q
    have q3 : spF X.K cl mf [.ref a1] H1 Q fun c dd H' => W c dd σ H' := q2 μ2 H1 (.refl rh2) [] (Rls.nil.mpr rfl)
    have hlen := hF.len _ _ _ _ q3
    exact PySem.W.callWith_K0 (first := [.ref a1]) I1.kIn hm.kp (run_g (us := [.ref a1]) hF hg hr tk I1 (hbd s1 [.ref a1] (by simpa using hlen)) (.cons (show RelV (V.ref a1) (Value.ref a1) from rfl) .nil) q3)
  | cons e es =>
    simp only [List.all_cons, Bool.and_eq_true] at hp
    refine PySem.W.callWith_K (first := [.ref a1]) (h₀ := X.base) I.ok.mod.kin hm.kp (thn (hs.run pos pins s1 σ H1 _ I1 q) fun us s2 ⟨ws, H2, I2, r, q2⟩ => ⟨I2.kIn, ?_⟩) (star_cons hp.1) (back_plain hp.2)
    have hlen := hF.len _ _ _ _ q2
    exact run_g (us := .ref a1 :: us) hF hg hr tk I2 (hbd s2 (.ref a1 :: us) (by rw [← hlen, List.length_cons, List.length_cons, r.length])) (.cons (show RelV (V.ref a1) (Value.ref a1) from rfl) r) q2
theorem make_guards {A : Around} {C : Addr} {us : List Value} {kw : List (Str × Value)} : (A.under (.builtin "type.__call__" ⟨.ref C :: us, kw⟩)).guards = A.guards := by
  first | rfl | simp [Around.under, Code.weight, Code.isCreation, Code.isGuard, Code.isCaller, Code.frames, Code.isFrame, guardIds]
theorem run_makeG {pins : List (Addr × Obj)} {σ : L2.St} {H : Hp} {s : Shared} {Q : VK} {us : List Value} {vs : List V} {k : Nat} {C g : Addr} {fd : FuncData} {ps : List Str} {mf : Fn} (M : Mk X.K C g) (F : FnG X.prog X.w X.K X.mg X.base k g fd ps (spF X.K cl mf)) (hg : X.A.guards = some []) (hr : Room (k + 1) X.A) (tk : Takes X W)
    (hbd : ∀ (s : Shared) (us : List Value), us.length = ps.length → BindsTo s fd ⟨us, []⟩ (ps.zip us)) (I : Inv X pins σ H s) (r : Vals vs us)
    (h : ∀ x dx, H x = none → H dx = none → dx ≠ x → spF X.K cl mf (.ref x :: vs) (upd (upd H dx (.own x)) x (.ins C dx [])) (fun v H2 => v = .non ∧ Q (.ref x) H2) (fun c dd H' => W c dd σ H')) :
    wpAny (model X.prog X.w) X.A (call (.ref C) us) (EP X pins σ Q) X.xe s := by
  have hq := h (s.heap.objs.size + 1) s.heap.objs.size (I.hok.fresh (Nat.le_succ _)) (I.hok.fresh (Nat.le_refl _)) (Nat.ne_of_lt (Nat.lt_succ_self _))
  have I2 := Inv.made (C := C) I
  have r2 : Vals (V.ref (s.heap.objs.size + 1) :: vs) (Value.ref (s.heap.objs.size + 1) :: us) := .cons rfl r
  have hl : (Value.ref (s.heap.objs.size + 1) :: us).length = ps.length := by
    have e := r2.length
    rw [F.len _ _ _ _ hq] at e
    exact e.symm
  refine wpAny_call (make_map (f := g) I.kIn M.makes M.init (beq_iff_eq.mp M.fn) (codeAny_mono (F.run _ X.stack _ _ ⟨Value.ref (s.heap.objs.size + 1) :: us, []⟩ (Value.ref (s.heap.objs.size + 1) :: us) _ _ _ (by rw [make_guards]; exact hg) (hr.make C us [])
    (I2.env0.make C us []) (hbd _ (Value.ref (s.heap.objs.size + 1) :: us) hl) r2 hq) fun r s' hq' => ?_))
  cases r with
  | error e => exact tk e s' (XE.of_call I2 (fun _ _ _ z => z) hq')
  | ok fl =>
    cases fl with
    | ret u =>
      obtain ⟨v, H', I3, rv, ev, q3⟩ := I2.after hq'
      subst ev
      exact ⟨rv, ⟨V.ref (s.heap.objs.size + 1), H', I3, rfl, q3⟩⟩
    | next => exact False.elim hq'
    | brk => exact False.elim hq'
    | cont => exact False.elim hq'
/-- a new instance is a step -/
theorem Go.made {K : PySem.W.Frag} {H : Hp} {μ : List Addr} {h : Hh} {k : Nat} {C x dx : Addr} (r : RlH K cl H μ h) (hC : cl.i k = some C) (nx : H x = none) (nd : H dx = none) (ne : dx ≠ x) : Go K cl μ H (h ++ [.ins k []]) (μ ++ [x]) (upd (upd H dx (.own x)) x (.ins C dx [])) := by
  have g1 : Go K cl μ H h μ (upd H dx (.own x)) := .new r nd
  have nx1 : upd H dx (.own x) x = none := by rw [upd_ne ne.symm]; exact nx
  refine g1.trans (.alloc g1.rh nx1 ⟨C, dx, [], hC, upd_same, ?_, rfl, Rls.nil.mpr rfl⟩)
  rw [upd_ne ne, upd_same]
theorem sNew {j k np : Nat} {y : Str} {mf : Fn} {p : Pos} {e : Expr} {es : List Expr} {ms : En → Hh → R (List D)} (F : CalN X cl j k y np mf) (hg : X.A.guards = some []) (hr : Room (j + 1) X.A) (tk : Takes X W)
    (hx : Gl X y) (hd : (y == ("__debug__" : Str)) = false) (hp : (e :: es).all plainX = true) (hs : PA X (e :: es) (tA X.K cl W ms)) :
    PE X (.Call (.Name y p) (e :: es) [] pos) (tE X.K cl W fun ρ h => (ms ρ h).bind fun xs h => (mf (.ref h.length :: xs) (h ++ [.ins k []])).bind fun d h1 => if isNon d = true then .ok (.ref h.length) h1 else .bad) := by
  obtain ⟨C, g, fd, ps, _, hC, hmg, hM, hF, hbd⟩ := F.ex
  refine ⟨fun pins s σ H Q I ⟨μ, ρ, h, re, rh, pg⟩ => ?_⟩
  refine wpAny_Call_Name_kw (ld_glob I hx hmg ?_ hd)
  have arg : wpAny (model X.prog X.w) X.A (spliced (backTo pos (starEach (e :: es) X.env))) (AP X pins σ fun vs H1 => ∀ x dx, H1 x = none → H1 dx = none → dx ≠ x → spF X.K cl mf (.ref x :: vs) (upd (upd H1 dx (.own x)) x (.ins C dx [])) (fun v H2 => v = .non ∧ Q (.ref x) H2) (fun c dd H' => W c dd σ H')) X.xe s := by
    refine hs.run pos pins s σ H _ I ⟨μ, ρ, h, re, rh, pg.bind.imp (fun xs h1 μ1 H1 g1 p1 vs rv x dx nx nd ne => ?_) fun _ _ _ _ _ w => w⟩
    have gm := Go.made (cl := cl) g1.rh hC nx nd ne
    have ln : (μ1 ++ [x])[h1.length]? = some x := by rw [← g1.rh.len]; simp
    refine ⟨μ1 ++ [x], h1 ++ [.ins k []], .ref h1.length :: xs, gm.rh, Rls.cons.mpr ⟨_, _, rfl, Rl.ref_iff.mpr ⟨x, rfl, ln⟩, rv.mono gm.tp gm.pre⟩, ?_⟩
    refine (Pg.far gm p1).bind.imp (fun d h2 μ2 H2 g2 p2 v rv2 => ?_) fun _ _ _ _ _ w => w
    cases hd : isNon d with
    | false => rw [hd] at p2; exact p2.elim
    | true =>
      rw [hd, if_pos rfl] at p2
      have en := isNon_eq hd
      subst en
      refine ⟨Rl.non_iff.mp rv2, ?_⟩
      exact p2 μ2 H2 (.refl g2.rh) _ (Rl.ref_iff.mpr ⟨x, rfl, pre_get g2.pre ln⟩)
  simp only [List.all_cons, Bool.and_eq_true] at hp
  refine PySem.W.callWith_K (h₀ := X.base) I.ok.mod.kin hM.kp (thn arg fun us s1 ⟨vs, H1, I1, r, q⟩ => ⟨I1.kIn, ?_⟩) (star_cons hp.1) (back_plain hp.2)
  exact run_makeG hM hF hg hr tk hbd I1 r q
end
end HS

/-! Targets, comprehensions, statements. -/
namespace HS
open PySem L2 PyProof.Rows

/-- nothing but these slots changes -/
structure Only (vs : List Nat) (σ σ' : L2.St) : Prop where
  len : σ'.length = σ.length
  at_ : ∀ j, j ∉ vs → σ'[j]? = σ[j]?
theorem Only.refl {vs : List Nat} {σ : L2.St} : Only vs σ σ := ⟨rfl, fun _ _ => rfl⟩
theorem Only.trans {vs : List Nat} {σ σ' σ'' : L2.St} (a : Only vs σ σ') (b : Only vs σ' σ'') : Only vs σ σ'' := ⟨b.len.trans a.len, fun j h => (b.at_ j h).trans (a.at_ j h)⟩
theorem Only.mono {vs ws : List Nat} {σ σ' : L2.St} (a : Only vs σ σ') (h : ∀ j ∈ vs, j ∈ ws) : Only ws σ σ' := ⟨a.len, fun j q => a.at_ j fun z => q (h j z)⟩
theorem Only.set {i : Nat} {σ : L2.St} {x : Option V} : Only [i] σ (σ.set i x) := ⟨by simp, fun j h => by rw [List.getElem?_set_ne (fun z => h (by simp [z]))]⟩
theorem wipe_in {σ : L2.St} {j : Nat} : ∀ {vs : List Nat}, j ∈ vs → j < σ.length → (wipe σ vs)[j]? = some none
  | v :: vs, h, l => by
    unfold wipe
    by_cases e : v = j
    · subst e
      rw [List.getElem?_set_self (by rw [wipe_length]; exact l)]
    · rw [List.getElem?_set_ne e]
      rcases List.mem_cons.mp h with h | h
      · exact absurd h.symm e
      · exact wipe_in h l
theorem wipe_off {σ : L2.St} {j : Nat} : ∀ {vs : List Nat}, j ∉ vs → (wipe σ vs)[j]? = σ[j]?
  | [], _ => rfl
  | v :: vs, h => by
    unfold wipe
    simp only [List.mem_cons, not_or] at h
    rw [List.getElem?_set_ne (Ne.symm h.1)]
    exact wipe_off h.2
theorem Only.wipe {vs : List Nat} {σ σ' : L2.St} (a : Only vs σ σ') : wipe σ' vs = wipe σ vs := by
  apply List.ext_getElem?
  intro j
  by_cases h : j ∈ vs
  · by_cases l : j < σ.length
    · rw [wipe_in h (by rw [a.len]; exact l), wipe_in h l]
    · rw [List.getElem?_eq_none (by rw [wipe_length, a.len]; omega), List.getElem?_eq_none (by rw [wipe_length]; omega)]
  · rw [wipe_off h, wipe_off h]
    exact a.at_ j h
theorem wipe_wipe {σ : L2.St} {vs : List Nat} : wipe (wipe σ vs) vs = wipe σ vs :=
  Only.wipe ⟨wipe_length σ vs, fun j h => wipe_off h⟩

def NoW : WX := fun _ _ _ _ => False
/-- a target by the evaluator; vs: the slots that it may set -/
def tG (K : PySem.W.Frag) (cl : Md) (vs : List Nat) (m : D → En → Hh → R En) : TG := fun v σ H Q => ∃ μ ρ h d ρ' h', RlE K cl H μ σ ρ ∧ RlH K cl H μ h ∧ Rl K cl H μ d v ∧ m d ρ h = .ok ρ' h' ∧ ∀ μ' H' σ', Go K cl μ H h' μ' H' → RlE K cl H' μ' σ' ρ' → Only vs σ σ' → Q σ' H'
def tGs (K : PySem.W.Frag) (cl : Md) (vs : List Nat) (m : List D → En → Hh → R En) : TGs := fun us σ H Q => ∃ μ ρ h ds ρ' h', RlE K cl H μ σ ρ ∧ RlH K cl H μ h ∧ Rls K cl H μ ds us ∧ m ds ρ h = .ok ρ' h' ∧ ∀ μ' H' σ', Go K cl μ H h' μ' H' → RlE K cl H' μ' σ' ρ' → Only vs σ σ' → Q σ' H'
theorem R.bind_inv {α β : Type} {r : R α} {f : α → Hh → R β} {b : β} {h : Hh} (e : r.bind f = .ok b h) : ∃ a h1, r = .ok a h1 ∧ f a h1 = .ok b h := by
  cases r with
  | ok a h1 => exact ⟨a, h1, rfl, e⟩
  | ex _ _ => cases e
  | bad => cases e
theorem R.calm_inv {α : Type} {r : R α} {b : α} {h : Hh} (e : r.calm = .ok b h) : r = .ok b h := by
  cases r with
  | ok a h1 => exact e
  | ex _ _ => cases e
  | bad => cases e
theorem Pg.okAt {α : Type} {K : PySem.W.Frag} {cl : Md} {μ : List Addr} {H : Hp} {r : R α} {a : α} {h' : Hh} {P : α → Hh → List Addr → Hp → Prop} {W : HS.X → Hh → List Addr → Hp → Prop} (e : r = .ok a h') (f : ∀ μ' H', Go K cl μ H h' μ' H' → P a h' μ' H') : Pg K cl μ H r P W := by
  rw [e]; exact f

section
variable {X : Cx} {cl : Md} {W : WX} {m ma mb mc : En → Hh → R D} {a b c tg : Expr} {pos : Pos}
/-! ### targets -/
theorem gNm {i : Nat} {x : Str} (hN : X.N.Nodup) (hi : X.N[i]? = some x) (hx : Loc X.env.scope x) (hf : X.fn x = true ∨ X.env.scope.names.lookup x = some .local) : PG X (.Name x pos) (tG X.K cl [i] fun d ρ h => .ok (ρ.set i (some d)) h) :=
  wkG (pg_name hN hi hx hf) fun v σ H Q ⟨μ, ρ, h, d, ρ', h', re, rh, rl, e, q⟩ => by
    cases e
    exact q μ H _ (.refl rh) (re.set rl i) .set
theorem gsNil : PGs X [] (tGs X.K cl [] fun xs ρ h => match xs with | [] => .ok ρ h | _ => .bad) :=
  wkGs pgs_nil fun v σ H Q ⟨μ, ρ, h, d, ρ', h', re, rh, rl, e, q⟩ => by
    dsimp only at e
    split at e
    · cases e
      rw [Rls.nil] at rl
      exact ⟨rl, q μ H σ (.refl rh) re .refl⟩
    · cases e
theorem gsCons {e : Expr} {es : List Expr} {vs ws : List Nat} {m1 : D → En → Hh → R En} {m2 : List D → En → Hh → R En} (h1 : PG X e (tG X.K cl vs m1)) (h2 : PGs X es (tGs X.K cl ws m2))
    (hs : (assignEach (e :: es) X.env).map (·.2) = assign e X.env :: (assignEach es X.env).map (·.2)) :
    PGs X (e :: es) (tGs X.K cl (vs ++ ws) fun xs ρ h => match xs with | x :: xs => (m1 x ρ h).bind fun ρ h => m2 xs ρ h | [] => .bad) :=
  wkGs (pgs_cons h1 h2 hs) fun v σ H Q ⟨μ, ρ, h, d, ρ', h', re, rh, rl, e, q⟩ => by
    dsimp only at e
    split at e
    · rw [Rls.cons] at rl
      obtain ⟨u, r, rfl, r1, r2⟩ := rl
      obtain ⟨ρ1, h1, e1, e2⟩ := R.bind_inv e
      exact ⟨u, r, rfl, μ, ρ, h, _, ρ1, h1, re, rh, r1, e1, fun μ1 H1 σ1 g1 re1 o1 => ⟨μ1, ρ1, h1, _, ρ', h', re1, g1.rh, r2.mono g1.tp g1.pre, e2, fun μ2 H2 σ2 g2 re2 o2 => q μ2 H2 σ2 (g1.trans g2) re2 ((o1.mono fun j z => List.mem_append_left _ z).trans (o2.mono fun j z => List.mem_append_right _ z))⟩⟩
    · cases e
theorem gTp {es : List Expr} {k : Nat} {vs : List Nat} {n : Nat} {ms : List D → En → Hh → R En} (hc : X.calm = true) (h : PGs X es (tGs X.K cl vs ms)) (hn : (assignEach es X.env).length = n) (hst : (assignEach es X.env).findIdx? (·.1) = none)
    (hl : ∀ xs ρ h ρ' h', ms xs ρ h = .ok ρ' h' → xs.length = n) : PG X (.Tuple es k pos) (tG X.K cl vs fun d ρ h => match d with | .tup xs => ms xs ρ h | _ => .bad) :=
  wkG (pg_tup hc h hn hst) fun v σ H Q ⟨μ, ρ, h, d, ρ', h', re, rh, rl, e, q⟩ => by
    dsimp only at e
    split at e
    · obtain ⟨a, us, rfl, s, r⟩ := Rl.tup_iff.mp rl
      refine ⟨a, us, rfl, s, ?_, μ, ρ, h, _, ρ', h', re, rh, r, e, q⟩
      rw [← r.length]
      exact hl _ _ _ _ _ e
    · cases e
theorem gSb (hp : ∀ v, assign (.Subscript a b pos) X.env v = (do
      let ov ← holding [v] (eval a X.env)
      let iv ← holding [v, ov] (eval b X.env)
      standAt pos
      holding [v, ov, iv] (setItem ov iv v)
      release [v, ov, iv] [])) (ha : PE X a (tE X.K cl W ma)) (hb : PE X b (tE X.K cl W mb)) :
    PG X (.Subscript a b pos) (tG X.K cl [] fun d ρ h => (ma ρ h).bind fun o h => (mb ρ h).bind fun k h => (setI o k d h).bind fun _ h => .ok ρ h) :=
  wkG (pg_sub ha hb (pset (cl := cl)) hp) fun v σ H Q ⟨μ, ρ, h, d, ρ', h', re, rh, rl, e, q⟩ => by
    obtain ⟨o, h1, e1, e⟩ := R.bind_inv e
    obtain ⟨k, h2, e2, e⟩ := R.bind_inv e
    obtain ⟨_, h3, e3, e⟩ := R.bind_inv e
    cases e
    refine ⟨μ, ρ, h, re, rh, Pg.okAt e1 fun μ1 H1 g1 ov ro => ⟨μ1, ρ, h1, re.mono g1.tp g1.pre, g1.rh, Pg.okAt e2 fun μ2 H2 g2 iv ri => ?_⟩⟩
    refine ⟨μ2, h2, o, k, d, NoX, g2.rh, ro.mono g2.tp g2.pre, ri, rl.mono (g1.tp.trans g2.tp) (g1.pre.trans g2.pre), Pg.okAt e3 fun μ3 H3 g3 => ?_⟩
    have g := (g1.trans g2).trans g3
    exact q μ3 H3 σ g (re.mono g.tp g.pre) .refl

/-! ### comprehensions -/
theorem tsNo : PTs X [] (tT X.K cl W fun _ h => .ok true h) := ⟨fun pins s σ H Q I ⟨μ, ρ, h, re, rh, pg⟩ => pts_nil.run pins s σ H Q I (pg μ H (.refl rh))⟩
theorem tsSo {mt : En → Hh → R Bool} (h : PT X c (tT X.K cl W mt)) : PTs X [c] (tT X.K cl W mt) := pts_one h
end
/-- a thing beside the cells is changed -/
theorem Go.side {K : PySem.W.Frag} {cl : Md} {μ μ' : List Addr} {H H' : Hp} {h' : Hh} {D : Addr} {u o : HO} (g : Go K cl μ H h' μ' H') (n : H D = none) (dm : D ∉ μ') (eu : H' D = some u) (m : Mut (some u)) (mx : ∀ q, u ≠ LamX.CodeO D q) : Go K cl μ H h' μ' (upd H' D o) := by
  have t : Tp H' (upd H' D o) := Tp.upd_mut eu m
  refine ⟨g.pre, g.tp.trans t, fun a x na nt e => ?_, g.nw, tabs_upd g.rh.tb eu (fun ps z => by rw [z] at m; exact m) mx, g.rh.len, g.rh.nd, fun j c b e1 e2 => ?_⟩
  · rw [upd_ne (ne_of_none e n)]
    exact g.fr a x na nt e
  · have q := g.rh.at_ j c b e1 e2
    exact q.mono t List.prefix_rfl (by rw [upd_ne fun z => dm (by rw [← z]; exact List.mem_of_getElem? e2)])
theorem Go.apart {K : PySem.W.Frag} {cl : Md} {μ μ' : List Addr} {H H' : Hp} {h' : Hh} {D : Addr} {u : HO} (g : Go K cl μ H h' μ' H') (dm : D ∉ μ) (e : H D = some u) (nt : ∀ ps, u ≠ .tbl ps := by intro ps z; cases z) : D ∉ μ' ∧ H' D = some u :=
  ⟨fun z => (g.nw D z).elim dm (fun n => by
    rcases n with n | ⟨ps, n⟩
    · rw [e] at n; cases n
    · rw [e] at n; exact nt ps (Option.some.inj n)), g.fr D u dm nt e⟩
/-- the new list becomes a cell -/
theorem Go.adopt {K : PySem.W.Frag} {cl : Md} {μ μ' : List Addr} {H H' : Hp} {h' : Hh} {D : Addr} {ds : List HS.D} {vs : List V} (g : Go K cl μ H h' μ' H') (n : NoT H D) (dm : D ∉ μ') (e : H' D = some (.lst vs)) (r : Rls K cl H' μ' ds vs) : Go K cl μ H (h' ++ [.lst ds]) (μ' ++ [D]) H' := by
  refine ⟨g.pre.trans (List.prefix_append _ _), g.tp, g.fr, fun a m => ?_, g.rh.tb, by simp [g.rh.len], ?_, fun m c a e1 e2 => ?_⟩
  · rcases List.mem_append.mp m with m | m
    · exact g.nw a m
    · exact .inr (by rw [List.mem_singleton.mp m]; exact n)
  · exact List.nodup_append.mpr ⟨g.rh.nd, by simp, fun a ha b hb => fun z => dm (by rw [List.mem_singleton.mp hb] at z; rw [← z]; exact ha)⟩
  · by_cases hm : m < h'.length
    · rw [List.getElem?_append_left hm] at e1
      rw [List.getElem?_append_left (by rw [g.rh.len]; exact hm)] at e2
      exact (g.rh.at_ m c a e1 e2).mono .refl (List.prefix_append _ _) rfl
    · have em : m = h'.length := by
        have := (List.getElem?_eq_some_iff.mp e1).1
        simp at this
        omega
      subst em
      rw [List.getElem?_append_right (Nat.le_refl _)] at e1
      rw [List.getElem?_append_right (by rw [g.rh.len]; exact Nat.le_refl _)] at e2
      simp at e1
      rw [g.rh.len] at e2
      simp at e2
      subst e1 e2
      exact ⟨vs, e, r.mono .refl (List.prefix_append _ _)⟩

theorem drop_cons {α : Type} {l r : List α} {d : α} {i : Nat} (h : l.drop i = d :: r) : l[i]? = some d ∧ l.drop (i + 1) = r ∧ i < l.length := by
  have hi : i < l.length := by
    rcases Nat.lt_or_ge i l.length with z | z
    · exact z
    · rw [List.drop_eq_nil_of_le z] at h; cases h
  rw [List.drop_eq_getElem_cons hi] at h
  injection h with h1 h2
  exact ⟨by rw [List.getElem?_eq_getElem hi, h1], h2, hi⟩
theorem drop_nil' {α : Type} {l : List α} {i : Nat} (h : l.drop i = []) (hi : i ≤ l.length) : i = l.length := by
  have := congrArg List.length h
  simp at this
  omega
/-- one item's turn -/
noncomputable def elM (mt : D → En → Hh → R En) (mc : En → Hh → R Bool) (me : En → Hh → R D) (own : List Nat) (ρ : En) : D → Hh → R (Option D) := fun d h => ((mt d (wipeD ρ own) h).bind fun ρ1 h => (mc ρ1 h).bind fun b h =>
  if b = true then (me ρ1 h).bind fun y h => .ok (some y) h else .ok none h).calm
section
variable {X : Cx} {cl : Md} {W : WX} {K : PySem.W.Frag}
/-- the layer's reading of a comprehension follows from the evaluator's -/
theorem lcR {mi : En → Hh → R (List D × Gs)} {mt : D → En → Hh → R En} {mc : En → Hh → R Bool} {me : En → Hh → R D} {own vs : List Nat} (hv : ∀ j ∈ vs, j ∈ own) {σ : L2.St} {H : Hp} {Q : VK}
    (x : tE K cl W (fun ρ h => (mi ρ h).bind fun p h => lcL p.2 (elM mt mc me own ρ) p.1 [] h) σ H Q) :
    tLc (tI K cl W mi) (tG K cl vs mt) (tT K cl NoW mc) (tE K cl NoW me) own σ H Q := by
  obtain ⟨μ, ρ, h, re, rh, pg⟩ := x
  refine ⟨μ, ρ, h, re, rh, pg.bind.imp (fun p h1 μ1 H1 g1 p1 J src D nD => ?_) fun _ _ _ _ _ w => w⟩
  obtain ⟨items, gs⟩ := p
  dsimp only at p1 src
  have re1 := re.mono g1.tp g1.pre
  have dm1 : D ∉ μ1 := g1.rh.fresh nD
  refine ⟨fun i m H2 => m = items.length - i ∧ i ≤ items.length ∧ ∃ μ2 h2 acc vacc, Go K cl μ1 H1 h2 μ2 H2 ∧ D ∉ μ2 ∧ H2 D = some (.lst vacc) ∧ Rls K cl H2 μ2 acc vacc ∧ Pg K cl μ1 H1 (lcL gs (elM mt mc me own ρ) (items.drop i) acc h2) (VP K cl Q) (wX K cl W σ), ⟨items.length, rfl, Nat.zero_le _, μ1, h1, [], [], (Go.new g1.rh nD), dm1, upd_same, by rw [Rls.nil], by simpa using p1⟩, ?_⟩
  rintro i m H2 ⟨em, hi, μ2, h2, acc, vacc, g2, dm2, e2, ra, p2⟩
  cases hd : items.drop i with
  | nil =>
    refine .inl ?_
    rw [hd] at p2
    unfold lcL at p2
    split at p2
    · rename_i hg
      obtain ⟨hg, hl⟩ := hg
      refine ⟨(src i H2 μ2 h2 g2 hg).2 (drop_nil' hd hi), ?_⟩
      refine p2 (μ2 ++ [D]) H2 (g2.adopt (.inl nD) dm2 e2 ra) _ (Rl.ref_iff.mpr ⟨D, rfl, ?_⟩)
      rw [← g2.rh.len]
      simp
    · exact p2.elim
  | cons d ds =>
    obtain ⟨hd1, hd2, hlt⟩ := drop_cons hd
    refine .inr ?_
    rw [hd] at p2
    unfold lcL at p2
    split at p2
    · rename_i hg
      obtain ⟨hg, hl⟩ := hg
      obtain ⟨go, yld⟩ := (src i H2 μ2 h2 g2 hg).1 d hd1
      refine ⟨go, _, fun H' w => ⟨items.length - (i + 1), by omega, w⟩, fun x H' y => ?_⟩
      obtain ⟨g3, rx⟩ := yld x H' y
      have a3 := g3.apart dm2 e2
      have gg3 := g2.trans g3
      cases ee : elM mt mc me own ρ d h2 with
      | bad => rw [ee] at p2; exact p2.elim
      | ex e h' =>
        exfalso
        unfold elM at ee
        revert ee
        generalize ((mt d (wipeD ρ own) h2).bind fun ρ1 h => (mc ρ1 h).bind fun b h => if b = true then (me ρ1 h).bind fun y h => R.ok (some y) h else .ok none h) = r
        cases r <;> (intro ee; cases ee)
      | ok oy h5 =>
        rw [ee] at p2
        have p2 : Pg K cl μ1 H1 (match oy with | some y => lcL gs (elM mt mc me own ρ) ds (acc ++ [y]) h5 | none => lcL gs (elM mt mc me own ρ) ds acc h5) (VP K cl Q) (wX K cl W σ) := p2
        obtain ⟨ρ1, h3, e3, ee⟩ := R.bind_inv (R.calm_inv ee)
        obtain ⟨bb, h4, e4, ee⟩ := R.bind_inv ee
        refine ⟨μ2, wipeD ρ own, h2, d, ρ1, h3, ((re1.mono gg3.tp gg3.pre).wipe own), g3.rh, rx, e3, fun μ4 H4 σ4 g4 re4 o4 => ⟨by rw [(o4.mono hv).wipe, wipe_wipe], μ4, ρ1, h3, re4, g4.rh, Pg.okAt e4 fun μ5 H5 g5 => ?_⟩⟩
        have g35 := (g3.trans g4).trans g5
        have a5 := g35.apart dm2 e2
        have gg5 := g2.trans g35
        cases bb with
        | false =>
          rw [if_neg (by decide)] at ee
          dsimp only
          rw [if_neg (by decide)]
          cases ee
          exact ⟨rfl, hlt, μ5, h5, acc, vacc, gg5, a5.1, a5.2, ra.mono g35.tp g35.pre, by rw [hd2]; exact p2⟩
        | true =>
          rw [if_pos rfl] at ee
          dsimp only
          rw [if_pos rfl]
          obtain ⟨y, h6, e6, ee⟩ := R.bind_inv ee
          cases ee
          refine ⟨μ5, ρ1, h4, re4.mono g5.tp g5.pre, g5.rh, Pg.okAt e6 fun μ6 H6 g6 v rv => ?_⟩
          have g36 := g35.trans g6
          have a6 := g36.apart dm2 e2
          have gg6 := g2.trans g36
          have gs := gg6.side (o := .lst (vacc ++ [v])) nD a6.1 a6.2 trivial (not_code fun _ z => by cases z)
          have t6 : Tp H6 (upd H6 D (.lst (vacc ++ [v]))) := Tp.upd_mut a6.2 trivial
          refine ⟨vacc, a6.2, by rw [← ra.length]; exact hl, rfl, hlt, μ6, h5, acc ++ [y], vacc ++ [v], gs, a6.1, upd_same, ((ra.mono g36.tp g36.pre).mono t6 List.prefix_rfl).append (Rls.one (rv.mono t6 List.prefix_rfl)), by rw [hd2]; exact p2⟩
    · exact p2.elim
end
end HS

/-! Statements. -/
namespace HS
open PySem L2 PyProof.Rows

/-- what a statement's end asks -/
def EndF (K : PySem.W.Frag) (cl : Md) (W : WX) (D : Ends) (f : F) (μ : List Addr) (H : Hp) : Prop :=
  match f with
  | .nx ρ => ∀ σ, RlE K cl H μ σ ρ → D.nx σ H
  | .bk ρ => ∀ σ, RlE K cl H μ σ ρ → D.bk σ H
  | .ct ρ => ∀ σ, RlE K cl H μ σ ρ → D.ct σ H
  | .rt d => ∀ v, Rl K cl H μ d v → D.rt v H
  | .xc e ρ => ∀ σ, RlE K cl H μ σ ρ → ∀ c dd, RlX K cl H μ e c dd → W c dd σ H
/-- a statement's reading by the evaluator -/
def tS (K : PySem.W.Frag) (cl : Md) (W : WX) (m : En → Hh → R F) : TS := fun D σ H => ∃ μ ρ h, RlE K cl H μ σ ρ ∧ RlH K cl H μ h ∧ Pg K cl μ H (m ρ h) (fun f _ μ' H' => EndF K cl W D f μ' H') NoX
theorem Pg.noEx {α : Type} {K : PySem.W.Frag} {cl : Md} {μ : List Addr} {H : Hp} {r : R α} {P P' : α → Hh → List Addr → Hp → Prop} {W' : HS.X → Hh → List Addr → Hp → Prop} (x : Pg K cl μ H r P NoX) (ne : ∀ e h, r ≠ .ex e h) (h : ∀ a h' μ' H', Go K cl μ H h' μ' H' → P a h' μ' H' → P' a h' μ' H') : Pg K cl μ H r P' W' := by
  cases r with
  | ok a h' => exact fun μ' H' g => h _ _ _ _ g (x μ' H' g)
  | ex e h' => exact absurd rfl (ne e h')
  | bad => exact x
/-- an expression within a statement -/
theorem Pg.toF {α : Type} {K : PySem.W.Frag} {cl : Md} {W : WX} {D : Ends} {μ : List Addr} {H : Hp} {σ : L2.St} {ρ : En} {r : R α} {k : α → Hh → R F} (re : RlE K cl H μ σ ρ)
    (x : Pg K cl μ H (r.toF ρ k) (fun f _ μ' H' => EndF K cl W D f μ' H') NoX) :
    Pg K cl μ H r (fun a h' μ' H' => Pg K cl μ' H' (k a h') (fun f _ μ' H' => EndF K cl W D f μ' H') NoX) (wX K cl W σ) := by
  cases r with
  | ok a h' => exact fun μ' H' g => Pg.far g (show Pg K cl μ H (k a h') _ NoX from x)
  | ex e h' => exact fun μ' H' g c dd rx => (show Pg K cl μ H (.ok (F.xc e ρ) h') _ NoX from x) μ' H' g σ (re.mono g.tp g.pre) c dd rx
  | bad => exact x
theorem R.calm_ne {α : Type} {r : R α} (e : HS.X) (h : Hh) : r.calm ≠ .ex e h := by
  cases r <;> (intro z; cases z)
section
variable {X : Cx} {cl : Md} {W : WX} {m ma mb mc : En → Hh → R D} {a b c tg : Expr} {pos : Pos}
/-- target = value: the reading -/
theorem asgR {K : PySem.W.Frag} {te : TE} {vs : List Nat} {mt : D → En → Hh → R En} {g : TG} {D : Ends} {σ : L2.St} {H : Hp} (hte : ∀ Q : VK, tE K cl W ma σ H Q → te σ H Q) (hg : ∀ v σ H Q, tG K cl vs mt v σ H Q → g v σ H Q)
    (x : tS K cl W (fun ρ h => (ma ρ h).toF ρ fun d h => (mt d ρ h).calm.toF ρ fun ρ1 h => .ok (.nx ρ1) h) D σ H) : tAsg te g D σ H := by
  obtain ⟨μ, ρ, h, re, rh, pg⟩ := x
  refine hte _ ⟨μ, ρ, h, re, rh, pg.toF re |>.imp (fun d h1 μ1 H1 g1 p1 v rv => ?_) fun _ _ _ _ _ w => w⟩
  refine hg _ _ _ _ ?_
  cases e : (mt d ρ h1).calm with
  | bad => rw [e] at p1; exact p1.elim
  | ex x h2 => exact absurd e (R.calm_ne _ _)
  | ok ρ' h2 =>
    rw [e] at p1
    exact ⟨μ1, ρ, h1, d, ρ', h2, re.mono g1.tp g1.pre, g1.rh, rv, R.calm_inv e, fun μ' H' σ' g re' _ => p1 μ' H' g σ' re'⟩
theorem tAsg_def {te : TE} {g : TG} {D : Ends} {σ : L2.St} {H : Hp} : tAsg te g D σ H = te σ H fun x H1 => g x σ H1 D.nx := rfl
theorem sAsg {vs : List Nat} {mt : D → En → Hh → R En} (he : PE X a (tE X.K cl W ma)) (hg : PG X tg (tG X.K cl vs mt)) (hs : swapsWithSole [tg] a pos.line X.env = pure false) (hw : swappedStores [tg] a X.env = pure none) (h1 : (assignEach [tg] X.env).map (·.2) = [assign tg X.env]) :
    PS X (.Assign [tg] a pos) (tS X.K cl W fun ρ h => (ma ρ h).toF ρ fun d h => (mt d ρ h).calm.toF ρ fun ρ1 h => .ok (.nx ρ1) h) :=
  wkS (ps_asg he hg hs hw h1) fun D σ H x => asgR (fun _ z => z) (fun _ _ _ _ z => z) x
theorem gName_of {K : PySem.W.Frag} {i : Nat} (v : V) (σ : L2.St) (H : Hp) (Q : L2.St → Hp → Prop) (x : tG K cl [i] (fun d ρ h => .ok (ρ.set i (some d)) h) v σ H Q) : gName i v σ H Q := by
  obtain ⟨μ, ρ, h, d, ρ', h', re, rh, rl, e, q⟩ := x
  cases e
  exact q μ H _ (.refl rh) (re.set rl i) .set
theorem sSet {i : Nat} {x : Str} {pos' : Pos} (hN : X.N.Nodup) (hi : X.N[i]? = some x) (hx : Loc X.env.scope x) (hf : X.fn x = true ∨ X.env.scope.names.lookup x = some .local) (hs : swapsWith a (some (.Name x pos')) pos.line X.env = pure false) (he : PE X a (tE X.K cl W ma)) :
    PS X (.Assign [.Name x pos'] a pos) (tS X.K cl W fun ρ h => (ma ρ h).toF ρ fun d h => (R.ok (ρ.set i (some d)) h).calm.toF ρ fun ρ1 h => .ok (.nx ρ1) h) :=
  wkS (ps_set hN hi hx he hs hf) fun D σ H x => asgR (mt := fun d ρ h => .ok (ρ.set i (some d)) h) (fun _ z => z) (fun _ _ _ _ z => gName_of _ _ _ _ z) x
theorem lcE {K : PySem.W.Frag} {mi : En → Hh → R (List D × Gs)} {mt : D → En → Hh → R En} {mcc : En → Hh → R Bool} {me : En → Hh → R D} {own vs : List Nat} (hv : ∀ j ∈ vs, j ∈ own) {e : Expr} (h : PE X e (tLc (tI X.K cl W mi) (tG X.K cl vs mt) (tT X.K cl NoW mcc) (tE X.K cl NoW me) own)) :
    PE X e (tE X.K cl W fun ρ h => (mi ρ h).bind fun p h => lcL p.2 (elM mt mcc me own ρ) p.1 [] h) := wkE h fun σ H Q z => lcR hv z
theorem sSetLc {i : Nat} {y : Str} {py : Pos} {elt iter : Expr} {ifs : List Expr} {scope : Scope} {own : List (Str × Nat)} {spos : Pos} {vs : List Nat} {mi : En → Hh → R (List D × Gs)} {mt : D → En → Hh → R En} {mcc : En → Hh → R Bool} {me : En → Hh → R D} (hv : ∀ j ∈ vs, j ∈ own.map (·.2))
    (h : PS X (.Assign [.Name y py] (.ListComp elt [⟨tg, iter, ifs, 0⟩] scope pos) spos) (tAsg (tLc (tI X.K cl W mi) (tG X.K cl vs mt) (tT X.K cl NoW mcc) (tE X.K cl NoW me) (own.map (·.2))) (gName i))) :
    PS X (.Assign [.Name y py] (.ListComp elt [⟨tg, iter, ifs, 0⟩] scope pos) spos) (tS X.K cl W fun ρ h => ((mi ρ h).bind fun p h => lcL p.2 (elM mt mcc me (own.map (·.2)) ρ) p.1 [] h).toF ρ fun d h => (R.ok (ρ.set i (some d)) h).calm.toF ρ fun ρ1 h => .ok (.nx ρ1) h) :=
  wkS h fun D σ H x => asgR (mt := fun d ρ h => .ok (ρ.set i (some d)) h) (fun _ z => lcR hv z) (fun _ _ _ _ z => gName_of _ _ _ _ z) x
/-- a, b = x, y, stored from the right -/
theorem parR {K : PySem.W.Frag} {ms : En → Hh → R (List HS.D)} {mt : HS.D → En → Hh → R En} {i j : Nat} {D : Ends} {σ : L2.St} {H : Hp}
    (hm : ∀ xs ρ h, mt (.tup xs) ρ h = match xs with | [a, b] => .ok ((ρ.set i (some a)).set j (some b)) h | _ => .bad)
    (x : tS K cl W (fun ρ h => ((ms ρ h).bind fun xs h => if lineOk xs.length then R.ok (HS.D.tup xs) h else .bad).toF ρ fun d h => (mt d ρ h).calm.toF ρ fun ρ1 h => .ok (.nx ρ1) h) D σ H) : tPar i j (tA K cl W ms) D σ H := by
  obtain ⟨μ, ρ, h, re, rh, pg⟩ := x
  have pg := pg.toF re
  refine ⟨μ, ρ, h, re, rh, pg.bind.imp (fun xs h1 μ1 H1 g1 p1 vs rv => ?_) fun _ _ _ _ _ w => w⟩
  split at p1
  · have p1 := p1 μ1 H1 (.refl g1.rh)
    have re1 := re.mono g1.tp g1.pre
    dsimp only at p1
    rw [hm] at p1
    match xs, rv, p1 with
    | [], rv, p1 => exact p1.elim
    | [_], rv, p1 => exact p1.elim
    | [d1, d2], rv, p1 =>
      obtain ⟨v, r, rfl, r1, rv⟩ := Rls.cons.mp rv
      obtain ⟨w, r, rfl, r2, rv⟩ := Rls.cons.mp rv
      rw [Rls.nil] at rv
      subst rv
      exact ⟨v, w, rfl, p1 μ1 H1 (.refl g1.rh) _ ((re1.set r1 i).set r2 j)⟩
    | _ :: _ :: _ :: _, rv, p1 => exact p1.elim
  · exact p1.elim
theorem par3R {K : PySem.W.Frag} {ms : En → Hh → R (List HS.D)} {mt : HS.D → En → Hh → R En} {i j l : Nat} {D : Ends} {σ : L2.St} {H : Hp}
    (hm : ∀ xs ρ h, mt (.tup xs) ρ h = match xs with | [a, b, c] => .ok (((ρ.set i (some a)).set j (some b)).set l (some c)) h | _ => .bad)
    (x : tS K cl W (fun ρ h => ((ms ρ h).bind fun xs h => if lineOk xs.length then R.ok (HS.D.tup xs) h else .bad).toF ρ fun d h => (mt d ρ h).calm.toF ρ fun ρ1 h => .ok (.nx ρ1) h) D σ H) : tPar3 i j l (tA K cl W ms) D σ H := by
  obtain ⟨μ, ρ, h, re, rh, pg⟩ := x
  have pg := pg.toF re
  refine ⟨μ, ρ, h, re, rh, pg.bind.imp (fun xs h1 μ1 H1 g1 p1 vs rv => ?_) fun _ _ _ _ _ w => w⟩
  split at p1
  · have p1 := p1 μ1 H1 (.refl g1.rh)
    have re1 := re.mono g1.tp g1.pre
    dsimp only at p1
    rw [hm] at p1
    match xs, rv, p1 with
    | [], rv, p1 => exact p1.elim
    | [_], rv, p1 => exact p1.elim
    | [_, _], rv, p1 => exact p1.elim
    | [d1, d2, d3], rv, p1 =>
      obtain ⟨v, r, rfl, r1, rv⟩ := Rls.cons.mp rv
      obtain ⟨w, r, rfl, r2, rv⟩ := Rls.cons.mp rv
      obtain ⟨u, r, rfl, r3, rv⟩ := Rls.cons.mp rv
      rw [Rls.nil] at rv
      subst rv
      exact ⟨v, w, u, rfl, p1 μ1 H1 (.refl g1.rh) _ (((re1.set r1 i).set r2 j).set r3 l)⟩
    | _ :: _ :: _ :: _ :: _, rv, p1 => exact p1.elim
  · exact p1.elim
theorem sExp (hs : swapsWith a none pos.line X.env = pure false) (he : PE X a (tE X.K cl W ma)) : PS X (.Expr a pos) (tS X.K cl W fun ρ h => (ma ρ h).toF ρ fun _ h => .ok (.nx ρ) h) :=
  wkS (ps_expr he hs) fun D σ H ⟨μ, ρ, h, re, rh, pg⟩ => ⟨μ, ρ, h, re, rh, (pg.toF re).imp (fun d h1 μ1 H1 g1 p1 v rv => p1 μ1 H1 (.refl g1.rh) _ (re.mono g1.tp g1.pre)) fun _ _ _ _ _ w => w⟩
theorem sRet (he : PE X a (tE X.K cl W ma)) : PS X (.Return (some a) pos) (tS X.K cl W fun ρ h => (ma ρ h).toF ρ fun d h => .ok (.rt d) h) :=
  wkS (ps_ret he) fun D σ H ⟨μ, ρ, h, re, rh, pg⟩ => ⟨μ, ρ, h, re, rh, (pg.toF re).imp (fun d h1 μ1 H1 g1 p1 v rv => p1 μ1 H1 (.refl g1.rh) _ rv) fun _ _ _ _ _ w => w⟩
theorem sRetN : PS X (.Return none pos) (tS X.K cl W fun _ h => .ok (.rt .non) h) :=
  wkS ps_retN fun D σ H ⟨μ, ρ, h, re, rh, pg⟩ => pg μ H (.refl rh) _ (Rl.non_iff.mpr rfl)
theorem sBrk : PS X (.Break pos) (tS X.K cl W fun ρ h => .ok (.bk ρ) h) := wkS ps_break fun D σ H ⟨μ, ρ, h, re, rh, pg⟩ => pg μ H (.refl rh) _ re
theorem sCnt : PS X (.Continue pos) (tS X.K cl W fun ρ h => .ok (.ct ρ) h) := wkS ps_continue fun D σ H ⟨μ, ρ, h, re, rh, pg⟩ => pg μ H (.refl rh) _ re
theorem sPas : PS X (.Pass pos) (tS X.K cl W fun ρ h => .ok (.nx ρ) h) := wkS ps_pass fun D σ H ⟨μ, ρ, h, re, rh, pg⟩ => pg μ H (.refl rh) _ re
theorem sDoc {x : Str} {j : Nat} {p : Pos} : PS X (.Expr (.Constant (.str x) j p) pos) (tS X.K cl W fun ρ h => .ok (.nx ρ) h) := wkS ps_doc fun D σ H ⟨μ, ρ, h, re, rh, pg⟩ => pg μ H (.refl rh) _ re
theorem sNev {st : Stmt} : PS X st (tS X.K cl W fun _ _ => .bad) := wkS ps_never fun D σ H ⟨μ, ρ, h, re, rh, pg⟩ => pg.elim
theorem sIf {p q : List Stmt} {mp mq : En → Hh → R F} (hc : PT X c (tT X.K cl W fun ρ h => (mc ρ h).bind asBl)) (hp : PSs X p (tS X.K cl W mp)) (hq : PSs X q (tS X.K cl W mq)) :
    PS X (.If c p q pos) (tS X.K cl W fun ρ h => ((mc ρ h).bind asBl).toF ρ fun t h => if t = true then mp ρ h else mq ρ h) :=
  wkS (ps_if hc hp hq) fun D σ H ⟨μ, ρ, h, re, rh, pg⟩ => ⟨μ, ρ, h, re, rh, (pg.toF re).imp (fun t h1 μ1 H1 g1 p1 => by
    cases t with
    | true => exact ⟨μ1, ρ, h1, re.mono g1.tp g1.pre, g1.rh, p1⟩
    | false => exact ⟨μ1, ρ, h1, re.mono g1.tp g1.pre, g1.rh, p1⟩) fun _ _ _ _ _ w => w⟩
theorem ssNil : PSs X [] (tS X.K cl W fun ρ h => .ok (.nx ρ) h) := wkSs pss_nil fun D σ H ⟨μ, ρ, h, re, rh, pg⟩ => pg μ H (.refl rh) _ re
theorem ssCons {st : Stmt} {sts : List Stmt} {m1 m2 : En → Hh → R F} (h1 : PS X st (tS X.K cl W m1)) (h2 : PSs X sts (tS X.K cl W m2)) :
    PSs X (st :: sts) (tS X.K cl W fun ρ h => (m1 ρ h).bind fun f h => match f with | .nx ρ1 => m2 ρ1 h | f => .ok f h) :=
  wkSs (pss_cons h1 h2) fun D σ H ⟨μ, ρ, h, re, rh, pg⟩ => ⟨μ, ρ, h, re, rh, pg.bind.imp (fun f h1 μ1 H1 g1 p1 => by
    cases f with
    | nx ρ1 => exact fun σ1 re1 => ⟨μ1, ρ1, h1, re1, g1.rh, p1⟩
    | bk ρ1 => exact p1 μ1 H1 (.refl g1.rh)
    | ct ρ1 => exact p1 μ1 H1 (.refl g1.rh)
    | rt d => exact p1 μ1 H1 (.refl g1.rh)
    | xc e ρ1 => exact p1 μ1 H1 (.refl g1.rh)) fun _ _ _ _ _ w => w⟩
theorem whN_bad {c : En → Hh → R Bool} {bd : En → Hh → R F} {n : Nat} {ρ : En} {h : Hh} {r : R F} (e : whN c bd n ρ h = some r) : ∃ k, n = k + 1 := by
  cases n with
  | zero => cases e
  | succ k => exact ⟨k, rfl⟩
theorem sWhl {body : List Stmt} {mw : En → Hh → R Bool} {mb : En → Hh → R F} (hp : PassesOwn (model X.prog X.w) X.A X.env X.xe) (hc : PT X c (tT X.K cl W mw)) (hb : PSs X body (tS X.K cl W mb)) :
    PS X (.While c body [] pos) (tS X.K cl W fun ρ h => whL mw mb ρ h) :=
  wkS (ps_while hp hc hb) fun D σ H ⟨μ, ρ, h, re, rh, pg⟩ => by
    unfold whL at pg
    dsimp only at pg
    split at pg
    · rename_i hx
      have hr := (Classical.choose_spec hx).choose_spec
      generalize (Classical.choose_spec hx).choose = r at pg hr
      generalize Classical.choose hx = n at hr
      refine ⟨fun m σ H => ∃ μ ρ h r, RlE X.K cl H μ σ ρ ∧ RlH X.K cl H μ h ∧ whN mw mb m ρ h = some r ∧ Pg X.K cl μ H r (fun f _ μ' H' => EndF X.K cl W D f μ' H') NoX, ⟨n, μ, ρ, h, r, re, rh, hr, pg⟩, ?_⟩
      rintro m σ H ⟨μ, ρ, h, r, re, rh, hr, pg⟩
      obtain ⟨m, rfl⟩ := whN_bad hr
      unfold whN at hr
      cases e1 : mw ρ h with
      | bad => rw [e1] at hr; cases hr; exact pg.elim
      | ex e h1 =>
        rw [e1] at hr; cases hr
        exact ⟨μ, ρ, h, re, rh, by rw [e1]; exact fun μ' H' g c dd rx => pg μ' H' g σ (re.mono g.tp g.pre) c dd rx⟩
      | ok b h1 =>
        refine ⟨μ, ρ, h, re, rh, Pg.okAt e1 fun μ1 H1 g1 => ?_⟩
        have re1 := re.mono g1.tp g1.pre
        rw [e1] at hr
        cases b with
        | false =>
          cases hr
          dsimp only
          rw [if_neg (by decide)]
          exact pg μ1 H1 g1 σ re1
        | true =>
          dsimp only at hr ⊢
          rw [if_pos rfl]
          refine ⟨_, fun σ' H' w => ⟨m, Nat.lt_succ_self m, w⟩, μ1, ρ, h1, re1, g1.rh, ?_⟩
          cases e2 : mb ρ h1 with
          | bad => rw [e2] at hr; cases hr; exact pg.elim
          | ex e h2 => rw [e2] at hr; cases hr; exact pg.elim
          | ok f h2 =>
            rw [e2] at hr
            intro μ2 H2 g2
            have g := g1.trans g2
            cases f with
            | nx ρ2 => exact fun σ2 re2 => ⟨μ2, ρ2, h2, r, re2, g.rh, hr, Pg.far g pg⟩
            | ct ρ2 => exact fun σ2 re2 => ⟨μ2, ρ2, h2, r, re2, g.rh, hr, Pg.far g pg⟩
            | bk ρ2 => cases hr; exact fun σ2 re2 => pg μ2 H2 g σ2 re2
            | rt d => cases hr; exact fun v rv => pg μ2 H2 g v rv
            | xc e ρ2 => cases hr; exact fun σ2 re2 => pg μ2 H2 g σ2 re2
    · exact pg.elim
theorem sFor {iter : Expr} {body : List Stmt} {vs : List Nat} {mi : En → Hh → R (List D × Gs)} {mt : D → En → Hh → R En} {mb : En → Hh → R F} (hp : PassesOwn (model X.prog X.w) X.A X.env X.xe) (hc : X.calm = true) (hi : PI X tg iter (tI X.K cl W mi)) (hg : PG X tg (tG X.K cl vs mt)) (hb : PSs X body (tS X.K cl W mb)) (hx : plainX iter = true) :
    PS X (.For tg iter body [] pos) (tS X.K cl W fun ρ h => (mi ρ h).toF ρ fun p h => forL p.2 mt mb p.1 ρ h) :=
  wkS (ps_for hp hc hi hg hb fun x => fold_plain hx) fun D σ H ⟨μ, ρ, h, re, rh, pg⟩ => by
    refine ⟨μ, ρ, h, re, rh, (pg.toF re).imp (fun p h1 μ1 H1 g1 p1 J src => ?_) fun _ _ _ _ _ w => w⟩
    obtain ⟨items, gs⟩ := p
    dsimp only at p1 src
    refine ⟨fun i m σ2 H2 => m = items.length - i ∧ i ≤ items.length ∧ ∃ μ2 ρ2 h2, Go X.K cl μ1 H1 h2 μ2 H2 ∧ RlE X.K cl H2 μ2 σ2 ρ2 ∧ Pg X.K cl μ2 H2 (forL gs mt mb (items.drop i) ρ2 h2) (fun f _ μ' H' => EndF X.K cl W D f μ' H') NoX, ⟨items.length, rfl, Nat.zero_le _, μ1, ρ, h1, .refl g1.rh, re.mono g1.tp g1.pre, p1⟩, ?_⟩
    rintro i m σ2 H2 ⟨em, hi, μ2, ρ2, h2, g2, re2, p2⟩
    cases hd : items.drop i with
    | nil =>
      refine .inl ?_
      rw [hd] at p2
      unfold forL at p2
      split at p2
      · rename_i hgs
        exact ⟨(src i H2 μ2 h2 g2 hgs).2 (drop_nil' hd hi), p2 μ2 H2 (.refl g2.rh) σ2 re2⟩
      · exact p2.elim
    | cons d ds =>
      obtain ⟨hd1, hd2, hlt⟩ := drop_cons hd
      refine .inr ?_
      rw [hd] at p2
      unfold forL at p2
      split at p2
      · rename_i hgs
        obtain ⟨go, yld⟩ := (src i H2 μ2 h2 g2 hgs).1 d hd1
        refine ⟨go, _, fun σ' H' w => ⟨items.length - (i + 1), by omega, w⟩, fun x H' y => ?_⟩
        obtain ⟨g3, rx⟩ := yld x H' y
        cases e3 : (mt d ρ2 h2).calm with
        | bad => rw [e3] at p2; exact p2.elim
        | ex e h' => exact absurd e3 (R.calm_ne _ _)
        | ok ρ3 h3 =>
          rw [e3] at p2
          refine ⟨μ2, ρ2, h2, d, ρ3, h3, re2.mono g3.tp g3.pre, g3.rh, rx, R.calm_inv e3, fun μ4 H4 σ4 g4 re4 o4 => ?_⟩
          have g24 := g3.trans g4
          have g14 := g2.trans g24
          refine ⟨μ4, ρ3, h3, re4, g4.rh, ?_⟩
          have p2 := Pg.far g24 p2
          refine Pg.imp (Pg.bind p2) (fun f h5 μ5 H5 g5 p5 => ?_) fun _ _ _ _ _ w => w
          cases f with
          | nx ρ5 => exact fun σ5 re5 => ⟨rfl, hlt, μ5, ρ5, h5, g14.trans g5, re5, by rw [hd2]; exact p5⟩
          | ct ρ5 => exact fun σ5 re5 => ⟨rfl, hlt, μ5, ρ5, h5, g14.trans g5, re5, by rw [hd2]; exact p5⟩
          | bk ρ5 => exact fun σ5 re5 => p5 μ5 H5 (.refl g5.rh) σ5 re5
          | rt d => exact fun v rv => p5 μ5 H5 (.refl g5.rh) v rv
          | xc e ρ5 => exact fun σ5 re5 => p5 μ5 H5 (.refl g5.rh) σ5 re5
      · exact p2.elim
end
end HS

/-! Slices from behind; errors that are raised and caught; a call handed to a def. -/
namespace HS
open PySem L2 PyProof.Rows
theorem rev_pick (items : Array Value) (lo : Option Int) : slicePick items lo none (some (-1)) = ((items.toList.take (rIx items.size lo)).reverse).toArray := by
  have hb : ∃ m : Nat, m = rIx items.size lo ∧ m ≤ items.size ∧ sliceBounds lo none (some (-1)) items.size = ((m : Int) - 1, -1, -1) := by
    refine ⟨_, rfl, ?_, ?_⟩
    · unfold rIx
      cases lo with
      | none => exact Nat.le_refl _
      | some v => dsimp only; split <;> omega
    · unfold rIx sliceBounds
      have h1 : ¬ ((-1 : Int) > 0) := by decide
      cases lo with
      | none => simp
      | some v =>
        simp only [Option.getD_some, h1, if_false]
        refine Prod.ext ?_ rfl
        dsimp only
        by_cases hv : v < 0
        · simp only [hv, if_true]
          omega
        · simp only [hv, if_false]
          omega
  obtain ⟨m, hm, hle, hb⟩ := hb
  rw [← hm]
  unfold slicePick
  rw [hb]
  show ((sliceRange ((m : Int) - 1) (-1) (-1)).filterMap (items[·]?)).toArray = _
  rw [PySem.W.krv_sliceRange, PySem.W.krv_range, List.filterMap_reverse]
  have h := pick_run items 0 m
  have e : (List.range m).map (0 + ·) = List.range m := by
    rw [show ((0 + ·) : Nat → Nat) = id from funext fun k => Nat.zero_add k, List.map_id]
  rw [e, List.drop_zero] at h
  rw [h]
section
variable {X : Cx} {cl : Md} {W : WX} {m ma mb mc : En → Hh → R D} {a b c tg : Expr} {pos : Pos}
theorem Rls.reverse {K : PySem.W.Frag} {H : Hp} {μ : List Addr} : ∀ {ds : List D} {vs : List V}, Rls K cl H μ ds vs → Rls K cl H μ ds.reverse vs.reverse
  | [], _, h => by rw [Rls.nil] at h; subst h; exact Rls.nil.mpr rfl
  | d :: ds, _, h => by
    rw [Rls.cons] at h
    obtain ⟨v, r, rfl, h1, h2⟩ := h
    rw [List.reverse_cons, List.reverse_cons]
    exact (Rls.reverse h2).append (Rls.one h1)
theorem sRsl {lo : Option Expr} {ml : En → Hh → R (Option Int)} {k : Nat} {z1 z2 z3 : Pos} (ha : PE X a (tE X.K cl W ma)) (hl : PO X lo (tO X.K cl W ml)) :
    PE X (.Subscript a (.Slice lo none (some (.UnaryOp .USub (.Constant (.int 1) k z1) z2)) z3) pos) (tE X.K cl W fun ρ h => (ma ρ h).bind fun x h => (ml ρ h).bind fun l h => rslD x l h) := by
  refine ⟨fun pins s σ H Q I ⟨μ, ρ, h, re, rh, pg⟩ => ?_⟩
  refine Subscript_ (thn (ha.run pins s σ H (fun v H1 => ∃ μ1 h1 x, RlE X.K cl H1 μ1 σ ρ ∧ RlH X.K cl H1 μ1 h1 ∧ Rl X.K cl H1 μ1 x v ∧ Pg X.K cl μ1 H1 ((ml ρ h1).bind fun l h => rslD x l h) (VP X.K cl Q) (wX X.K cl W σ)) I
    ⟨μ, ρ, h, re, rh, pg.bind.imp (fun x h1 μ1 H1 g1 p1 v rv => ⟨μ1, h1, x, re.mono g1.tp g1.pre, g1.rh, rv, p1⟩) fun _ _ _ _ _ w => w⟩) fun v s1 ⟨x, H1, I1, r1, μ1, h1, d, re1, rh1, rd, p1⟩ => ?_)
  have hst : PO X (some (.UnaryOp .USub (.Constant (.int 1) k z1) z2)) (tPart (tUn (rU fun i => .int (-i)) (tC (.int 1)))) := po_some (pe_un un_neg pe_int)
  refine wpAny_Slice (thn (hl.run pins s1 σ H1 (fun l H2 => ∃ μ2 h2, RlH X.K cl H2 μ2 h2 ∧ Rl X.K cl H2 μ2 d x ∧ Pg X.K cl μ2 H2 (rslD d l h2) (VP X.K cl Q) (wX X.K cl W σ)) I1
    ⟨μ1, ρ, h1, re1, rh1, p1.bind.imp (fun l h2 μ2 H2 g2 p2 => ⟨μ2, h2, g2.rh, rd.mono g2.tp g2.pre, p2⟩) fun _ _ _ _ _ w => w⟩) fun vl s2 ⟨l, H2, I2, pl, μ2, h2, rh2, rd2, p2⟩ => ?_)
  refine thn (po_none.run pins s2 σ H2 (fun o H3 => o = none ∧ H3 = H2) I2 ⟨rfl, rfl⟩) fun vu s3 ⟨u, H3, I3, pu, eu, e3⟩ => ?_
  subst eu e3
  refine thn (hst.run pins s3 σ H3 (fun o H4 => o = some (-1) ∧ H4 = H3) I3 ⟨1, rfl, -1, rfl, rfl, rfl⟩) fun vs s4 ⟨o, H4, I4, ps, eo, e4⟩ => ?_
  subst eo e4
  have I5 : Inv X pins σ H4 { s4 with heap := s4.heap.push { cls := .type "slice", data := .fields #[vl, vu, vs] } } := I4.kept (t' := s4.toks) fun b ob q => Heap.get?_push_of_some _ q
  unfold rslD at p2
  split at p2 <;> try exact p2.elim
  split at p2 <;> try exact p2.elim
  rename_i xs ex
  obtain ⟨p, ws, rfl, m, s1', r1'⟩ := rh2.lst (listAt_eq ex) rd2
  cases r1
  obtain ⟨its, r, ht, hz⟩ := I5.list (.of s1')
  have hlen := r.length
  show wpAny (model X.prog X.w) X.A (subscriptTail a (.Slice lo none (some (.UnaryOp .USub (.Constant (.int 1) k z1) z2)) z3) (.ref p) (.ref s4.heap.objs.size)) (EP X pins σ Q) X.xe { s4 with heap := s4.heap.push { cls := .type "slice", data := .fields #[vl, vu, vs] } }
  refine tail_any (ops := [.ref p, .ref s4.heap.objs.size]) ht.isList.typeIs (PySem.slot_list_getitem.lookup) ?_ (by with_unfolding_all rfl)
  refine wpAny_getItem_list_slice ht.isList (Heap.IsSliceOf.new _ vl vu vs) pl pu ps (by decide) ?_ (by rw [List.size_toArray]; omega)
  rw [rev_pick]
  have el : rIx its.toArray.size l = rIx xs.length l := by rw [List.size_toArray, ← hlen, ← r1'.length]
  rw [el]
  have rv := (r.take (rIx xs.length l)).reverse
  refine ⟨.ref _, _, I5.laid (t' := s4.toks) (o := .lst (ws.take (rIx xs.length l)).reverse) (fun b ob q => Heap.get?_push_of_some _ q) (Nat.le_refl _) ?_, rfl, p2.lst rh2 (Rls.reverse (r1'.take _)) (I5.hok.fresh (Nat.le_refl _))⟩
  exact ⟨by rw [List.length_reverse, List.length_take]; omega, _, 0, rv, Heap.get?_push_size _ rfl⟩
/-! ### classes of errors -/
/-- the k-th class of errors, called x here -/
structure ClsK (K : PySem.W.Frag) (mg : Str → Option Value) (cl : Md) (k : Nat) (x : Str) : Prop where
  ex : ∃ a, cl.c k = some a ∧ mg x = some (.ref a) ∧ PySem.W.keepIn K (.ref a) = true ∧ PySem.W.typeIn K (.ref a) = some (.type "type") ∧ ExcC K a
/-- it may be raised without a word -/
structure RazK (K : PySem.W.Frag) (cl : Md) (k : Nat) : Prop where
  ex : ∃ a, cl.c k = some a ∧ PySem.W.excIn K a [.type "ValueError", .type "Exception", .type "BaseException", .type "object"] "ValueError.__new__" = true
/-- how any two of them stand -/
structure SubK (K : PySem.W.Frag) (cl : Md) : Prop where
  exc : ∀ k a, cl.c k = some a → ExcC K a
  sub : ∀ k j a b, cl.c k = some a → cl.c j = some b → PySem.W.subIn K (.ref a) (.ref b) = some (subC k j) ∧ PySem.W.kitOne K (.ref a) (.ref b) = some (subC k j)
theorem mk_bare {C : Addr} {x : Str} {p : Pos} (q : PySem.W.excIn X.K C [.type "ValueError", .type "Exception", .type "BaseException", .type "object"] "ValueError.__new__" = true) (gC : X.mg x = some (.ref C)) (kC : PySem.W.keepIn X.K (.ref C) = true) (r : Raises X (.ref C)) (hg : Gl X x)
    (hdb : (x == ("__debug__" : Str)) = false) : PMk X (.Call (.Name x p) [] [] pos) (fun _ H Q => Q (.ref C) none H) := by
  intro pins s σ H Q I h
  refine wpAny_Call_Name_kw (ld_glob I hg gC ?_ hdb)
  refine PySem.W.callWith_K0 I.kIn kC ?_
  obtain ⟨bm, N, nm, qn, bs, hdct, sn, sub, ab, col, dd, k0, k1, k2, k3, k5, mN, hC, hN, hni, T⟩ := exc_obj I.kIn q
  exact wpAny_call_exc_subT F.excBase_ValueError T hC hN hni (fun h' e hm => mk_of I hm r h (I.hok.gone hm.new)) (by decide)
theorem sRse {k : Nat} {x : Str} {p cpos : Pos} (hc : X.calm = true) (tk : Takes X W) (C : ClsK X.K X.mg cl k x) (R : RazK X.K cl k) (hg : Gl X x) (hdb : (x == ("__debug__" : Str)) = false) :
    PS X (.Raise (some (.Call (.Name x p) [] [] cpos)) none pos) (tS X.K cl W fun ρ h => .ok (.xc ⟨k, []⟩ ρ) h) := by
  obtain ⟨a, c1, c2, c3, c4, c5⟩ := C.ex
  obtain ⟨b, r1, r2⟩ := R.ex
  rw [c1] at r1
  cases r1
  refine wkS (ps_raise hc tk (mk_bare r2 c2 c3 (raises_own c5.hs c4) hg hdb)) fun D σ H ⟨μ, ρ, h, re, rh, pg⟩ => ?_
  exact pg μ H (.refl rh) σ re (.ref a) none ⟨a, rfl, c1, fun _ => rfl, fun f x z => by cases z⟩
end
end HS

/-! A lambda of no parameters handed to a def that calls it within a try. -/
namespace HS
open PySem L2 PyProof.Rows
/-- the place may make lambdas: its code object and the table are known -/
structure LamOk (X : Cx) (cl : Md) : Prop where
  ex : ∃ c P, X.env.code = .ref c ∧ LamX.TabB X.base X.mg c P ∧ (P, X.env.qual ++ "<lambda>") ∈ cl.T ∧ ∀ p ∈ cl.T, p.1 = P → p.2 = X.env.qual ++ "<lambda>"
/-- no name that the model treats apart -/
def nameOk1 (x : Str) : Prop := (x == ("__debug__" : Str)) = false ∧ (x == ("__classdict__" : Str)) = false
/-- the context of the def that got the lambda, entered at s -/
abbrev gCx (X : Cx) (Ng : List Str) (x : Str) (sg : Scope) (g : Addr) (cdg : Value) (s : Shared) (H : Hp) : Cx := cxOf C8.CX0 X.prog X.w X.K X.mg X.base Ng x sg g cdg X.A X.stack s H C8.E0
section
variable {X : Cx} {cl : Md}
set_option maxHeartbeats 1000000 in
/-- a(), in the def that got the lambda -/
theorem act_g {pins : List (Addr × Obj)} {σ : L2.St} {H : Hp} {s : Shared} {Ng : List Str} {qg : Str} {sg : Scope} {g f c' : Addr} {cdg pm ctv : Value} {params : Arguments} {body : Expr} {scope : Scope} {k i : Nat} {a : Str} {pn : List (Addr × Obj)} {xe : Value → Shared → Prop} {W : WX} {E : XK} {tb : TE} {p1 p2 : Pos}
    (I : Inv X pins σ H s) (L : LamX.LamS X.env.scope scope) (hf : s.heap.get? f = some (PySem.W.kla_obj "<lambda>" (X.env.qual ++ "<lambda>") params body scope (cloFrom X.env.cells scope.names []) pm c' ctv)) (hfn : H f = none) (hfr : f ∉ frs X.stack)
    (hbind : bindArgs (PySem.W.kla_fn "<lambda>" (X.env.qual ++ "<lambda>") params body scope (cloFrom X.env.cells scope.names []) pm (.ref c') ctv) ⟨[], []⟩ = pure [])
    (tk : Takes ((gCx X Ng qg sg g cdg s H).tr pn xe) W) (hW : ∀ c d σ' H', σ'.length = Ng.length → E c d H' → W c d σ' H') (hg : X.A.guards = some []) (hr : Room (k + 1) (X.A.deeper (envOfC qg sg s.heap.objs.size g cdg)))
    (hbody : ∀ (A : Around) (outer : List Env) (s : Shared) (H : Hp), A.guards = some [] → Room k (A.deeper (LamX.lamEnv X scope s.heap.objs.size f c')) → PE (LamX.lamCx X A outer s H E scope f c') body tb)
    (hN : Ng[i]? = some a) (hv : Vis sg a) (hd : (a == ("__debug__" : Str)) = false) (hcd : (a == ("__classdict__" : Str)) = false) :
    PE ((gCx X Ng qg sg g cdg s H).tr pn xe) (.Call (.Name a p1) [] [] p2) (fun σZ HZ Q => σZ[i]? = some (some (.ref f)) ∧ HZ c' = some (LamX.CodeO c' (X.env.qual ++ "<lambda>")) ∧ tb σ HZ Q) := by
  constructor
  rintro pz sZ σZ HZ Q IZ ⟨hs, hc, ht⟩
  have look := (pe_var (X := (gCx X Ng qg sg g cdg s H).tr pn xe) (pos := p1) (i := i) hN hv hd hcd).run pz sZ σZ HZ (fun v H1 => v = .ref f ∧ H1 = HZ) IZ ⟨.ref f, hs, rfl, rfl⟩
  refine wpAny_Call_Name_kw (thn look ?_)
  rintro u s1 ⟨v, H1, I1, r1, rfl, rfl⟩
  cases (show u = Value.ref f from r1)
  have keep1 := I1.base.keep f _ hf hfn hfr (fun z => nomatch (show f ∈ ([] : List Addr) from z))
  refine PySem.W.callWith_F0 ⟨_, _, _, _, keep1⟩ ?_
  obtain ⟨⟨oc, vs, t, hoc, hdc, hvc⟩, _, _⟩ := I1.hok c' _ hc
  have un := I1.base
  have ran : codeAny (model X.prog X.w) (X.A.deeper (envOfC qg sg s.heap.objs.size g cdg)) (.call (.ref f) ⟨[], []⟩) (CR (L2.CX X.prog X.w) (envOfC qg sg s.heap.objs.size g cdg :: X.stack) X.prog X.w H1 s1 Q E) s1 := by
    refine PySem.W.kla_callFunE hr.depth keep1 rfl L.co L.gen rfl ⟨c', oc, vs, t, rfl, hoc, hdc, hvc⟩ ?_
    rw [hbind]
    refine wpAny_pure (wpAny_newFunctionEnv (fun y hy => (L.own y hy).2) (fun y hy => absurd hy (by simp)) (fun h1 hns hsb => ?_) L.kind)
    refine ⟨I1.nolimit.fresh _ hsb, ?_⟩
    have kp : ∀ b o, s1.heap.get? b = some o → h1.get? b = some o := fun b o e => hsb.extBut b o (Nat.ne_of_lt (Heap.lt_size e)) (Heap.get?_push_of_some _ e)
    have J := LamX.lam_start2 (f := f) (c' := c') (A := X.A.deeper (envOfC qg sg s.heap.objs.size g cdg)) (outer := envOfC qg sg s.heap.objs.size g cdg :: X.stack) (E := E) (tk := s1.toks + ([] : List (Str × Value)).length) I L I1.env0 hr.hd un hns kp
    have B := (hbody (X.A.deeper (envOfC qg sg s.heap.objs.size g cdg)) (envOfC qg sg s.heap.objs.size g cdg :: X.stack) s1 H1 hg (hr.deeper _)).run [] _ _ H1 Q J ht
    refine PySem.W.kla_codeExpr (wpAny_mono B (fun v s' z => ?_) fun e s' z => z)
    obtain ⟨w', H', J', rv, q⟩ := z
    exact ⟨w', H', J'.os, J'.bare, J'.base, J'.hok, rv, q⟩
  refine wpAny_call (codeAny_mono ran fun r s' z => ?_)
  match r, z with
  | .error e, z => exact tk e s' (XE.of_call I1 (fun c d H' h => hW c d σZ H' I1.len h) z)
  | .ok (.ret u), z => exact I1.after z
  | .ok .next, z => exact False.elim z
  | .ok .brk, z => exact False.elim z
  | .ok .cont, z => exact False.elim z
/-- what is known of a def's text: try: return repr(a()); except x1 as e: return s1 if isinstance(e, x2) else s2 -/
structure TdRep (K : PySem.W.Frag) (mg : Str → Option Value) (cl : Md) (Ng : List Str) (sg : Scope) (a : Str) (k1 k2 : Nat) (s1 s2 : Str) (bg : List Stmt) : Prop where
  ex : ∃ (e x1 x2 : Str) (j1 j2 : Nat) (p1 p2 p3 p4 p5 p6 p7 p8 p9 p10 p11 p12 p13 p14 p15 p16 : Pos),
    bg = [.Try [.Return (some (.Call (.Name "repr" p1) [.Call (.Name a p2) [] [] p3] [] p4)) p5]
      [.ExceptHandler (some (.Name x1 p6)) (some e) [.Return (some (.IfExp (.Call (.Name "isinstance" p7) [.Name e p8, .Name x2 p9] [] p10) (.Constant (.str s1) j1 p11) (.Constant (.str s2) j2 p12) p13)) p14] p15] [] [] p16] ∧
    Ng = [a, e] ∧ a ≠ e ∧ Vis sg a ∧ sg.names.lookup e = some .local ∧ sg.names.lookup x1 = some .globalImplicit ∧ sg.names.lookup x2 = some .globalImplicit ∧ sg.names.lookup ("repr" : Str) = some NameKind.globalImplicit ∧ sg.names.lookup ("isinstance" : Str) = some NameKind.globalImplicit ∧
    mg "repr" = none ∧ mg "isinstance" = none ∧ ClsK K mg cl k1 x1 ∧ ClsK K mg cl k2 x2 ∧ nameOk1 a ∧ nameOk1 e ∧ nameOk1 x1 ∧ nameOk1 x2
set_option maxHeartbeats 2000000 in
theorem rep_gives {Ng : List Str} {x a : Str} {sg : Scope} {g f c' : Addr} {cdg : Value} {k1 k2 : Nat} {s1 s2 : Str} {bg : List Stmt} {s : Shared} {σ : L2.St} {H : Hp} {Q : VK} {m : En → Hh → R D} {W0 : HS.X → Hh → List Addr → Hp → Prop} {q : Str} (sub : SubK X.K cl) (sy : SysOk X.base) (T : TdRep X.K X.mg cl Ng sg a k1 k2 s1 s2 bg)
    (hg : X.A.guards = some []) (hu : X.A.units + 200 < cLine)
    (act : ∀ (W : WX) (pn : List (Addr × Obj)) (xe : Value → Shared → Prop) (E : XK) (p1 p2 : Pos), Takes ((gCx X Ng x sg g cdg s H).tr pn xe) W → (∀ c d σ' H', σ'.length = Ng.length → E c d H' → W c d σ' H') →
      PE ((gCx X Ng x sg g cdg s H).tr pn xe) (.Call (.Name a p1) [] [] p2) (fun σZ HZ Q => σZ[0]? = some (some (.ref f)) ∧ HZ c' = some (LamX.CodeO c' q) ∧ tE X.K cl (fun c d _ H' => E c d H') m σ HZ Q))
    (hc : H c' = some (LamX.CodeO c' q)) {μ : List Addr} {ρ : En} {h : Hh} (re : RlE X.K cl H μ σ ρ) (rh : RlH X.K cl H μ h) (pg : Pg X.K cl μ H (toldR (.rep k1 k2 s1 s2) (m ρ h)) (VP X.K cl Q) W0) :
    ∃ t, PSs (gCx X Ng x sg g cdg s H) bg t ∧ t { nx := fun _ H' => Q .non H', rt := Q } (L2.start Ng [.ref f]) H := by
  obtain ⟨e, x1, x2, j1, j2, p1, p2, p3, p4, p5, p6, p7, p8, p9, p10, p11, p12, p13, p14, p15, p16, rfl, rfl, hae, va, ve, v1, v2, vr, vi, mr, mi, C1, C2, na, ne, n1, n2⟩ := T.ex
  obtain ⟨a1, c11, c12, c13, c14, c15⟩ := C1.ex
  obtain ⟨a2, c21, c22, c23, c24, c25⟩ := C2.ex
  let Z := (gCx X [a, e] x sg g cdg s H).nox
  refine ⟨_, PSs.nox (pss_one (ps_try_as (X := Z) (c := .ref a1) (i := 1) (n := e) (Wout := fun _ _ _ _ => False)
    (tb := fun W D σ' H' => ∃ E : XK, (∀ c d σ2 H2, σ2.length = 2 → E c d H2 → W c d σ2 H2) ∧ σ'[0]? = some (some (.ref f)) ∧ H' c' = some (LamX.CodeO c' q) ∧ tE X.K cl (fun c d _ H' => E c d H') m σ H' fun v H2 => tBL X.K cl (bltD .repr) [v] H2 D.rt)
    (ts := fun b c d D σ' H' => ∃ (Dc : Addr) (z : Bool), c = .ref Dc ∧ d = none ∧ ExcC X.K Dc ∧ σ'[1]? = some (some (.ref b)) ∧ PySem.W.kitOne X.K (.ref Dc) (.ref a2) = some z ∧ D.rt (.str (if z = true then s1 else s2)) H')
    rfl rfl (by show [a, e].Nodup; simp [hae]) rfl ve ⟨v1, n1.1, .inl c12⟩ LamX.takes0 ?_ ?_)), ?_⟩
  · intro W pn xe tk _
    refine ⟨fun pins s' σ' H' D I ⟨E, hW, h1, h2, h3⟩ => ?_⟩
    have hp := act W pn xe E p2 p3 tk hW
    have hr : PE ((gCx X [a, e] x sg g cdg s H).tr pn xe) (.Call (.Name "repr" p1) [.Call (.Name a p2) [] [] p3] [] p4) (tCB (tBL X.K cl (bltD .repr)) (tCons _ tNil)) :=
      pe_callB (callr (X := (gCx X [a, e] x sg g cdg s H).tr pn xe) rfl hg (by show X.A.units + 3 + 65 < cLine; omega) sy .repr) vr mr (boot_bf .repr (by decide) (by decide)) (pa_cons hp pa_nil rfl) (by decide) (by decide) rfl rfl
    exact (pss_one (ps_ret (pos := p5) hr)).run pins s' σ' H' D I ⟨h1, h2, h3⟩
  · intro b oe c d pn hz hv
    refine ⟨fun pins s' σ' H' D I ⟨Dc, z, hcc, hd, ec, h1, h2, h3⟩ => ?_⟩
    subst hcc hd
    have hi : PE (Z.suite b ((b, oe) :: pn)) (.Call (.Name "isinstance" p7) [.Name e p8, .Name x2 p9] [] p10) (tCB (rIsE X.K Dc b) (tCons (tVar 1) (tCons (tC (.ref a2)) tNil))) :=
      pe_callB (call_isE (X := Z) ec hz hv) vi mi boot_isinstance (pa_cons (pe_var (i := 1) rfl (.inl ve) ne.1 ne.2) (pa_cons (pe_glob v2 c22 rfl n2.1) pa_nil rfl) rfl) (by decide) (by decide) rfl rfl
    have hq := pss_one (ps_ret (pos := p14) (pe_ifExp (pos := p13) (pt_val hi) (pe_str (X := Z.suite b ((b, oe) :: pn)) (x := s1) (j := j1) (pos := p11)) (pe_str (x := s2) (j := j2) (pos := p12))))
    refine hq.run pins s' σ' H' D I ?_
    refine ⟨.ref b, h1, .ref a2, .ref a2, z, rfl, fun u hu => hu, h2, ?_⟩
    refine ⟨z, rfl, ?_⟩
    cases z with
    | true => exact h3
    | false => exact h3
  · refine ⟨fun c d H2 => ∃ Dc : Addr, c = .ref Dc ∧ d = none ∧ ExcC X.K Dc ∧ PySem.W.exmOne X.K c (.ref a1) = some true ∧ ∃ z, PySem.W.kitOne X.K (.ref Dc) (.ref a2) = some z ∧ Q (.str (if z = true then s1 else s2)) H2, ?_, rfl, hc, μ, ρ, h, re, rh, ?_⟩
    · rintro c d σ2 H2 hl ⟨Dc, rfl, rfl, ec, hx, z, hk, hQ⟩
      refine ⟨true, hx, fun _ b nb => ⟨Dc, z, rfl, rfl, ec, ?_, hk, hQ⟩, fun z => nomatch z⟩
      rw [List.getElem?_set_self (by omega)]
    · cases em : m ρ h with
      | bad => rw [em] at pg; exact pg
      | ok y h1 =>
        rw [em] at pg
        exact fun μ1 H1 g1 v rv => ⟨μ1, h1, [y], _, g1.rh, Rls.one rv, Pg.far g1 pg⟩
      | ex y h1 =>
        rw [em] at pg
        simp only [toldR] at pg
        split at pg
        · rename_i hy
          intro μ1 H1 g1 c dd rx
          obtain ⟨Dc, rfl, hk, hd, _⟩ := rx
          have ec := sub.exc _ _ hk
          obtain ⟨b1, b2⟩ := sub.sub _ _ _ _ hk c11
          obtain ⟨b3, b4⟩ := sub.sub _ _ _ _ hk c21
          rw [hy.1] at b1
          exact ⟨Dc, rfl, hd hy.2, ec, PySem.W.exm_ref c15.hs c15.hd c14 b1, _, b4, pg μ1 H1 g1 _ (Rl.str_iff.mpr rfl)⟩
        · exact pg.elim
/-- no parameters -/
abbrev noArgs : Arguments := { posonlyargs := [], args := [], vararg := none, kwonlyargs := [], kw_defaults := [], kwarg := none, defaults := [] }
/-- x(lambda: body), x a def that tells by t -/
theorem sTold {W : WX} {x a : Str} {st : Stmt} {g : Addr} {fd : FuncData} {Ng : List Str} {k k1 k2 : Nat} {s1 s2 : Str} {body : Expr} {scope : Scope} {lpos p pos : Pos} {m : En → Hh → R D}
    (F : L2.Fun X.K x x st g fd) (mgf : X.mg x = some (.ref g)) (bd : ∀ (s : Shared) (us : List Value), us.length = 1 → BindsTo s fd ⟨us, []⟩ (([a] : List Str).zip us)) (S : FnScope Ng [a] (defScope st)) (T : TdRep X.K X.mg cl Ng (defScope st) a k1 k2 s1 s2 (defBody st))
    (sub : SubK X.K cl) (sy : SysOk X.base) (LO : LamOk X cl) (hg : X.A.guards = some []) (hr : Room (k + 2) X.A) (hx : Gl X x) (hdb : (x == ("__debug__" : Str)) = false) (L : LamX.LamS X.env.scope scope)
    (hbody : ∀ (A : Around) (outer : List Env) (s : Shared) (H : Hp) (E : XK) (f c' : Addr), A.guards = some [] → Room k (A.deeper (LamX.lamEnv X scope s.heap.objs.size f c')) → PE (LamX.lamCx X A outer s H E scope f c') body (tE X.K cl (fun c d _ H' => E c d H') m)) :
    PE X (.Call (.Name x p) [.Lambda noArgs body scope lpos] [] pos) (tE X.K cl W fun ρ h => toldR (.rep k1 k2 s1 s2) (m ρ h)) := by
  refine ⟨fun pins s σ H Q I ⟨μ, ρ, h, re, rh, pg⟩ => ?_⟩
  obtain ⟨c, P, hcode, TB, hmT, hu⟩ := LO.ex
  obtain ⟨oc, od, kV, doc, pm, an, cdv, ct, osl, rfl, lk, hcg⟩ := F.ex
  have na : nameOk1 a ∧ Vis (defScope st) a ∧ Ng[0]? = some a := by
    obtain ⟨e, x1, x2, j1, j2, p1, p2, p3, p4, p5, p6, p7, p8, p9, p10, p11, p12, p13, p14, p15, p16, _, h2, _, va, _, _, _, _, _, _, _, _, _, na, _⟩ := T.ex
    exact ⟨na, va, by rw [h2]; rfl⟩
  refine wpAny_Call_Name_kw (ld_glob I hx mgf ?_ hdb)
  refine PySem.W.callWith_K (h₀ := X.base) I.ok.mod.kin F.kp ?_ (by rfl) (by rfl)
  show wpAny _ _ (spliced ((false, eval (.Lambda noArgs body scope lpos) X.env) :: backTo pos (starEach [] X.env))) _ _ s
  refine Calls.spliced_cons (LamX.lam_make2 I TB hcode hmT hu rh.tb rfl (L.has I.ok) fun f c' pm' ctv H1 s' I1 eN T1 hf hfn hfr hco => ?_)
  refine Calls.spliced_nil ⟨I1.kIn, ?_⟩
  have tp : Tp H H1 := ⟨fun b xs e => eN b _ e (fun ps z => by cases z), fun b o u e => eN b _ e (fun ps z => by cases z), fun b y e => eN b _ e (fun ps z => by cases z), fun b y z e => eN b _ e (fun ps z => by cases z)⟩
  have gst : Go X.K cl μ H h μ H1 := by
    refine ⟨List.prefix_rfl, tp, fun b o _ nt e => eN b o e nt, fun _ m => .inl m, T1, rh.len, rh.nd, fun n d b e1 e2 => ?_⟩
    have q := rh.at_ n d b e1 e2
    obtain ⟨o, eo⟩ := q.there
    have nt : ∀ ps, o ≠ .tbl ps := fun ps z => by
      subst z
      cases d with
      | lst xs => obtain ⟨vs, q, _⟩ := q; rw [eo] at q; cases q
      | dic kvs => have q := q.2; rw [eo] at q; cases q
      | ins _ _ => obtain ⟨_, _, _, _, q, _⟩ := q; rw [eo] at q; cases q
      | dit _ => obtain ⟨_, q, _⟩ := q; rw [eo] at q; cases q
    exact q.mono tp List.prefix_rfl (by rw [eN b o eo nt, eo])
  have re1 := re.mono tp List.prefix_rfl
  have pg1 := Pg.far gst pg
  have ran : codeAny (model X.prog X.w) X.A (.call (.ref g) ⟨[.ref f], []⟩) (CR C8.CX0 X.stack X.prog X.w H1 s' Q C8.E0) s' := by
    refine LamX.run_ofS (N := Ng) (ps := [a]) (us := [.ref f]) (vs := [.ref f]) lk hcg S hr I1.env0 (bd s' [.ref f] rfl) (.cons rfl .nil) rfl fun hr' => ?_
    exact rep_gives sub sy T hg (by have := hr.un; omega) (fun W pn xe E p1 p2 tk hW => act_g I1 L hf hfn hfr rfl tk hW hg hr' (fun A outer s H hga hr2 => hbody A outer s H E f c' hga hr2) na.2.2 na.2.1 na.1.1 na.1.2) hco re1 gst.rh pg1
  refine wpAny_call (codeAny_mono ran fun r s2 z => ?_)
  match r, z with
  | .error e, z => exact False.elim z
  | .ok (.ret u), z => exact I1.after z
  | .ok .next, z => exact False.elim z
  | .ok .brk, z => exact False.elim z
  | .ok .cont, z => exact False.elim z
end
end HS

/-! self.x = e. -/
namespace HS
open PySem L2 PyProof.Rows
section
variable {X : Cx} {cl : Md} {W : WX} {ma mb : En → Hh → R D} {a b : Expr} {pos pos' : Pos}
theorem sSat {x : Str} {ats : List Str} (ik : InsK X.K cl ats) (hf : x ∈ ats) (ha : PE X a (tE X.K cl W ma)) (hb : PE X b (tE X.K cl W mb)) (hs : plainV b = true) :
    PS X (.Assign [.Attribute a x pos'] b pos) (tS X.K cl W fun ρ h => (mb ρ h).toF ρ fun v h => (ma ρ h).toF ρ fun o h => (satD o x v h).calm.toF ρ fun _ h => .ok (.nx ρ) h) := by
  refine wkS (ps_fld ha hb (swap_plain hs)) fun D σ H ⟨μ, ρ, h, re, rh, pg⟩ => ⟨μ, ρ, h, re, rh, (pg.toF re).imp (fun d h1 μ1 H1 g1 p1 y ry => ?_) fun _ _ _ _ _ w => w⟩
  have re1 := re.mono g1.tp g1.pre
  refine ⟨μ1, ρ, h1, re1, g1.rh, (p1.toF re1).imp (fun o h2 μ2 H2 g2 p2 v rv => ?_) fun _ _ _ _ _ w => w⟩
  have re2 := re1.mono g2.tp g2.pre
  unfold satD at p2
  split at p2 <;> try exact p2.elim
  rename_i n
  split at p2 <;> try exact p2.elim
  rename_i k fs eh
  split at p2 <;> try exact p2.elim
  rename_i hlen
  obtain ⟨a1, rfl, ea⟩ := Rl.ref_iff.mp rv
  obtain ⟨C, dx, vs, q0, q, q1, q2, r⟩ := g2.rh.at_ n _ a1 eh ea
  obtain ⟨c1, c2⟩ := ik k C q0
  have ln : vs.length < 1000 := by
    have := congrArg List.length q2
    simp only [List.length_map] at this
    omega
  refine ⟨a1, C, dx, vs, rfl, q, c1, c2 x hf, ln, ?_⟩
  have t : Tp H2 (upd H2 a1 (.ins C dx (putF x y vs))) := Tp.upd_mut q trivial
  have ry2 := ry.mono g2.tp g2.pre
  obtain ⟨e1, e2⟩ := fl_put (f := x) ry2 q2 r
  have g3 : Go X.K cl μ2 H2 (h2.set n (.ins k (putFd x d fs))) μ2 (upd H2 a1 (.ins C dx (putF x y vs))) := by
    refine .set g2.rh ea q trivial (not_code fun _ z => by cases z) ⟨C, dx, putF x y vs, q0, upd_same, t.own _ _ q1, e1, e2.mono t List.prefix_rfl⟩
  exact p2 μ2 _ g3 σ (re2.mono t List.prefix_rfl)
end
end HS

/-! A lambda of one parameter handed to a def that calls it. -/
namespace HS
open PySem L2 PyProof.Rows
/-- one parameter p, no name else of its own -/
structure LamS1 (sc scope : Scope) (p : Str) : Prop where
  kind : scope.kind = .function
  co : scope.isCoroutine = false
  gen : scope.isGenerator = false
  cell : ∀ y ∈ scope.names, y.2 ≠ .cell
  loc : scope.names.lookup p = some .local
  own : ∀ y ∈ scope.names, y.2 = .local → y.1 = p
  free : ∀ y ∈ scope.names, y.2 = .free → sc.names.lookup y.1 = some .cell ∨ sc.names.lookup y.1 = some .free
def lamS1B (sc scope : Scope) (p : Str) : Bool :=
  decide (scope.kind = .function) && !scope.isCoroutine && !scope.isGenerator && decide (scope.names.lookup p = some .local) && scope.names.all fun y => !decide (y.2 = .cell) && (!decide (y.2 = .local) || decide (y.1 = p)) && (!decide (y.2 = .free) || decide (sc.names.lookup y.1 = some .cell) || decide (sc.names.lookup y.1 = some .free))
theorem lamS1_by {sc scope : Scope} {p : Str} (h : lamS1B sc scope p = true) : LamS1 sc scope p := by
  unfold lamS1B at h
  simp only [Bool.and_eq_true, Bool.or_eq_true, Bool.not_eq_true', decide_eq_true_eq, decide_eq_false_iff_not, List.all_eq_true] at h
  obtain ⟨⟨⟨⟨h1, h2⟩, h3⟩, h4⟩, h5⟩ := h
  refine ⟨h1, h2, h3, fun y hy => (h5 y hy).1.1, h4, fun y hy e => ?_, fun y hy e => ?_⟩
  · rcases (h5 y hy).1.2 with z | z
    · exact absurd e z
    · exact z
  · rcases (h5 y hy).2 with (z | z) | z
    · exact absurd e z
    · exact .inl z
    · exact .inr z
theorem LamS1.has {X : Cx} {scope : Scope} {p : Str} (L : LamS1 X.env.scope scope p) (ok : X.Ok) : ∀ y ∈ scope.names, y.2 = .free → ∃ c, X.env.cells.lookup y.1 = some c := fun y hy e => by
  rcases L.free y hy e with k | k
  · exact ok.has _ (.inl k)
  · exact ok.has _ (.inr k)
section
variable {X : Cx} {pins : List (Addr × Obj)} {σ : L2.St} {H HZ : Hp} {s s1 : Shared}
/-- the lambda's body is entered with v in its slot i -/
theorem lam_start1 {A : Around} {outer : List Env} {E : XK} {scope : Scope} {f c' : Addr} {h₁ : Heap} {tk : Nat} {p : Str} {i : Nat} {v : V} {u : Value} (I : Inv X pins σ H s) (L : LamS1 X.env.scope scope p) (hN : X.N.Nodup) (hi : X.N[i]? = some p) (rv : RelV v u) (e0 : Env0 X.prog X.w X.K X.mg X.base A outer s1 HZ) (hd : A.handled = none)
    (un : Un (frs X.stack) [] H HZ s.heap s1.heap) (hns : h₁.Ns s1.heap.objs.size fun y => ([(p, u)] : List (Str × Value)).reverse.lookup y) (kp : ∀ b o, s1.heap.get? b = some o → h₁.get? b = some o) :
    Inv (LamX.lamCx X A outer s1 HZ E scope f c') [] (σ.set i (some v)) HZ { s1 with heap := h₁, toks := tk } := by
  have hfree := L.has I.ok
  have cm : ∀ {y c}, (cloFrom X.env.cells scope.names []).lookup y = some c → X.env.cells.lookup y = some c := fun {y c} e => by
    rcases cloFrom_mem (PySem.mem_of_lookup e) with hm | ⟨h1, h2⟩
    · cases hm
    · obtain ⟨c1, hc⟩ := hfree _ h1 rfl
      have hc : X.env.cells.lookup y = some c1 := hc
      have e2 : c = c1 := by
        rw [h2, hc] <;> rfl
      rw [e2]
      exact hc
  have look : ∀ {y}, scope.names.lookup y = some .free → ∃ c, (cloFrom X.env.cells scope.names []).lookup y = some c := fun {y} hl => by
    have hy : (y, NameKind.free) ∈ scope.names := PySem.mem_of_lookup hl
    exact mem_lookup (cloFrom_has (cells := X.env.cells) (acc := []) hy)
  have cellK : ∀ {c : Addr} {v : Option Value}, H c = none → s.heap.IsCell c v → h₁.IsCell c v := fun {c v} n ⟨o, ho, hd⟩ => by
    obtain ⟨sl, q⟩ := un.any ho n (by simp)
    exact ⟨_, kp _ _ q, hd⟩
  have noA : ∀ b : Addr, b ∉ (LamX.lamCx X A outer s1 HZ E scope f c').ex := fun b z => absurd (show b ∈ ([] : List Addr) from z) (by simp)
  refine ⟨⟨e0.mod, L.kind, rfl, rfl, Nat.le_refl _, fun y z c e1 e2 => I.ok.inj y z c (cm e1) (cm e2), fun y hy => ?_, fun y c z _ => ?_, fun _ => hd, Around.frames_deeper e0.frames, .inr ⟨rfl, rfl⟩, fun b z => absurd z (noA b), e0.bs, e0.bsz, fun b _ _ => noA b,
      fun b z => absurd z (noA b), e0.funs, e0.frf⟩,
    rfl, e0.bare, Un.kept kp, ⟨_, hns, fun k y w e1 e2 e3 => ?_⟩, fun y c e => ?_, e0.hok.fresh (Nat.le_refl _), fun y c e => ?_, fun q hq => absurd (show q ∈ ([] : List (Addr × Obj)) ++ [] from hq) (by simp), e0.hok.kept kp, by rw [List.length_set]; exact I.len⟩
  · have hy : scope.names.lookup y = some .cell ∨ scope.names.lookup y = some .free := hy
    rcases hy with hy | hy
    · exact absurd rfl (L.cell _ (PySem.mem_of_lookup hy))
    · exact look hy
  · have z : false = true := z
    cases z
  · have e3 : Vis scope y := e3
    have e1 : X.N[k]? = some y := e1
    rcases e3 with kk | kk | kk
    · have ey : y = p := L.own _ (PySem.mem_of_lookup kk) rfl
      subst ey
      have ek : i = k := by
        obtain ⟨l1, q1⟩ := List.getElem?_eq_some_iff.mp hi
        obtain ⟨l2, q2⟩ := List.getElem?_eq_some_iff.mp e1
        exact (List.getElem_inj hN).mp (q1.trans q2.symm)
      subst ek
      have li : i < σ.length := by rw [I.len]; exact (List.getElem?_eq_some_iff.mp hi).1
      rw [List.getElem?_set_self li] at e2
      cases e2
      exact ⟨u, rv, .inl ⟨kk, by simp⟩⟩
    · exact absurd rfl (L.cell _ (PySem.mem_of_lookup kk))
    · have ne : i ≠ k := fun z => by
        subst z
        rw [hi] at e1
        cases e1
        rw [L.loc] at kk
        cases kk
      rw [List.getElem?_set_ne ne] at e2
      obtain ⟨m, hn, hl⟩ := I.loc
      have hvis : Vis X.env.scope y := (L.free _ (PySem.mem_of_lookup kk) rfl).elim (fun k => .inr (.inl k)) (fun k => .inr (.inr k))
      obtain ⟨w', r, q⟩ := hl k y w e1 e2 hvis
      obtain ⟨c2, h2⟩ := look kk
      refine ⟨w', r, .inr ⟨.inr kk, c2, h2, ?_⟩⟩
      have c1 := cm h2
      rcases q with ⟨k', _⟩ | ⟨_, c3, e', z⟩
      · have k' : X.env.scope.names.lookup y = some .local := k'
        rcases L.free _ (PySem.mem_of_lookup kk) rfl with k2 | k2 <;> rw [show X.env.scope.names.lookup y = _ from k2] at k' <;> cases k'
      · rw [c1] at e'
        cases e'
        exact cellK (I.freeC y _ c1) z
  · obtain ⟨w', z⟩ := I.cell y c (cm e)
    exact ⟨w', cellK (I.freeC y c (cm e)) z⟩
  · obtain ⟨v, o, ho, hd⟩ := I.cell y c (cm e)
    exact un.free c o ho (I.freeC y c (cm e)) (by simp)
/-- the context of the def that got the lambda, entered at s; nothing may be raised there -/
abbrev nCx (X : Cx) (Ng : List Str) (x : Str) (sg : Scope) (g : Addr) (cdg : Value) (s : Shared) (H : Hp) : Cx := cxOf (L2.CX X.prog X.w) X.prog X.w X.K X.mg X.base Ng x sg g cdg X.A X.stack s H fun _ _ _ => False
/-- one parameter -/
abbrev oneArg (p : Str) (ap : Pos) : Arguments := { posonlyargs := [], args := [⟨p, none, ap⟩], vararg := none, kwonlyargs := [], kw_defaults := [], kwarg := none, defaults := [] }
/-- its one parameter takes the one value -/
def Bind1 (p : Str) : Prop := ∀ (q : Str) (ap : Pos) (body : Expr) (scope : Scope) (cl : List (Str × Addr)) (pm cv ctv u : Value), bindArgs (PySem.W.kla_fn "<lambda>" q (oneArg p ap) body scope cl pm cv ctv) ⟨[u], []⟩ = pure [(p, u)]
theorem bind_number : Bind1 "number" := fun _ _ _ _ _ _ _ _ _ => rfl
set_option maxHeartbeats 1000000 in
/-- a(e), in the def that got the lambda -/
theorem act1 {Ng : List Str} {qg : Str} {sg : Scope} {g f c' : Addr} {cdg pm ctv : Value} {p : Str} {ap : Pos} {body : Expr} {scope : Scope} {k i j : Nat} {a : Str} {e : Expr} {te tb : TE} {p1 p2 : Pos}
    (hb1 : Bind1 p) (I : Inv X pins σ H s) (L : LamS1 X.env.scope scope p) (hXN : X.N.Nodup) (hj : X.N[j]? = some p) (hf : s.heap.get? f = some (PySem.W.kla_obj "<lambda>" (X.env.qual ++ "<lambda>") (oneArg p ap) body scope (cloFrom X.env.cells scope.names []) pm c' ctv)) (hfn : H f = none) (hfr : f ∉ frs X.stack)
    (hg : X.A.guards = some []) (hr : Room (k + 1) (X.A.deeper (envOfC qg sg s.heap.objs.size g cdg)))
    (hbody : ∀ (A : Around) (outer : List Env) (s : Shared) (H : Hp), A.guards = some [] → Room k (A.deeper (LamX.lamEnv X scope s.heap.objs.size f c')) → PE (LamX.lamCx X A outer s H (fun _ _ _ => False) scope f c') body tb)
    (hN : Ng[i]? = some a) (hv : Vis sg a) (hd : (a == ("__debug__" : Str)) = false) (hcd : (a == ("__classdict__" : Str)) = false) (hp : plainX e = true) (he : PE (nCx X Ng qg sg g cdg s H) e te) :
    PE (nCx X Ng qg sg g cdg s H) (.Call (.Name a p1) [e] [] p2) (fun σZ HZ Q => σZ[i]? = some (some (.ref f)) ∧ te σZ HZ fun v H1 => H1 c' = some (LamX.CodeO c' (X.env.qual ++ "<lambda>")) ∧ tb (σ.set j (some v)) H1 Q) := by
  constructor
  rintro pz sZ σZ HZ Q IZ ⟨hs, hc⟩
  have look := (pe_var (X := nCx X Ng qg sg g cdg s H) (pos := p1) (i := i) hN hv hd hcd).run pz sZ σZ HZ (fun v H1 => v = .ref f ∧ H1 = HZ) IZ ⟨.ref f, hs, rfl, rfl⟩
  refine wpAny_Call_Name_kw (thn look ?_)
  rintro u s1 ⟨v, H1, I1, r1, rfl, rfl⟩
  cases (show u = Value.ref f from r1)
  have keep1 := I1.base.keep f _ hf hfn hfr (fun z => nomatch (show f ∈ ([] : List Addr) from z))
  refine PySem.W.callWith_F ⟨_, _, _, _, keep1⟩ ?_ (star_cons hp) (by rfl)
  rw [star_cons hp]
  show wpAny _ _ (spliced ((false, eval e (nCx X Ng qg sg g cdg s H).env) :: backTo p2 (starEach [] (nCx X Ng qg sg g cdg s H).env))) _ _ s1
  refine Calls.spliced_cons (thn (he.run pz s1 σZ H1 _ I1 hc) ?_)
  rintro w s2 ⟨v, H2, I2, rv, hco, ht⟩
  have keep2 := I2.base.keep f _ hf hfn hfr (fun z => nomatch (show f ∈ ([] : List Addr) from z))
  refine Calls.spliced_nil ⟨⟨_, _, _, _, keep2⟩, ?_⟩
  obtain ⟨⟨oc, vs, t, hoc, hdc, hvc⟩, _, _⟩ := I2.hok c' _ hco
  have un := I2.base
  have ran : codeAny (model X.prog X.w) (X.A.deeper (envOfC qg sg s.heap.objs.size g cdg)) (.call (.ref f) ⟨[w], []⟩) (CR (L2.CX X.prog X.w) (envOfC qg sg s.heap.objs.size g cdg :: X.stack) X.prog X.w H2 s2 Q fun _ _ _ => False) s2 := by
    refine PySem.W.kla_callFunE hr.depth keep2 rfl L.co L.gen rfl ⟨c', oc, vs, t, rfl, hoc, hdc, hvc⟩ ?_
    rw [hb1]
    refine wpAny_pure (wpAny_newFunctionEnv L.cell (fun y hy => ?_) (fun h1 hns hsb => ?_) L.kind)
    · rw [List.mem_singleton.mp hy]
      exact L.loc
    refine ⟨I2.nolimit.fresh _ hsb, ?_⟩
    have kp : ∀ b o, s2.heap.get? b = some o → h1.get? b = some o := fun b o e => hsb.extBut b o (Nat.ne_of_lt (Heap.lt_size e)) (Heap.get?_push_of_some _ e)
    have J := lam_start1 (f := f) (c' := c') (A := X.A.deeper (envOfC qg sg s.heap.objs.size g cdg)) (outer := envOfC qg sg s.heap.objs.size g cdg :: X.stack) (E := fun _ _ _ => False) (tk := s2.toks + ([(p, w)] : List (Str × Value)).length) I L hXN hj rv I2.env0 hr.hd un hns kp
    have B := (hbody (X.A.deeper (envOfC qg sg s.heap.objs.size g cdg)) (envOfC qg sg s.heap.objs.size g cdg :: X.stack) s2 H2 hg (hr.deeper _)).run [] _ _ H2 Q J ht
    refine PySem.W.kla_codeExpr (wpAny_mono B (fun v s' z => ?_) fun e s' z => z)
    obtain ⟨w', H', J', rv, q⟩ := z
    exact ⟨w', H', J'.os, J'.bare, J'.base, J'.hok, rv, q⟩
  refine wpAny_call (codeAny_mono ran fun r s' z => ?_)
  match r, z with
  | .error e, z =>
    obtain ⟨_, _, _, _, _, _, _, _, _, _, _, _, bad⟩ := z
    exact bad.elim
  | .ok (.ret u), z => exact I2.after z
  | .ok .next, z => exact False.elim z
  | .ok .brk, z => exact False.elim z
  | .ok .cont, z => exact False.elim z
variable {cl : Md}
theorem code_out {K : PySem.W.Frag} {H : Hp} {μ : List Addr} {h : Hh} {c' : Addr} {q : Str} (rh : RlH K cl H μ h) (hc : H c' = some (LamX.CodeO c' q)) : c' ∉ μ := fun m => by
  obtain ⟨i, hi⟩ := List.getElem?_of_mem m
  have hl : i < h.length := by rw [← rh.len]; exact (List.getElem?_eq_some_iff.mp hi).1
  have r := rh.at_ i h[i] c' (by simp [hl]) hi
  generalize h[i] = d at r
  unfold LamX.CodeO at hc
  cases d with
  | lst xs => obtain ⟨vs, r, _⟩ := r; rw [hc] at r; cases r
  | dic kvs => have r := r.2; rw [hc] at r; cases r
  | ins k fs => obtain ⟨C, dx, vs, _, r, _⟩ := r; rw [hc] at r; cases r
  | dit kvs => obtain ⟨ys, r, _⟩ := r; rw [hc] at r; exact dto_code q (Option.some.inj r).symm
theorem code_kept {K : PySem.W.Frag} {H H' : Hp} {μ μ' : List Addr} {h h' : Hh} {c' : Addr} {q : Str} (rh : RlH K cl H μ h) (hc : H c' = some (LamX.CodeO c' q)) (g : Go K cl μ H h' μ' H') : H' c' = some (LamX.CodeO c' q) :=
  g.fr c' _ (code_out rh hc) (fun ps z => by unfold LamX.CodeO at z; cases z) hc
/-- what is known of a def's text: the greatest n of a stretch with n / many as a test wants it -/
structure TdNear (Ng : List Str) (sg : Scope) (x : Str) (bg : List Stmt) : Prop where
  ex : ∃ (n0 n1 n2 n3 n4 n5 n6 doc : Str) (jd k1 k2 j1 j2 j3 : Nat) (q1 q2 q3 q4 q5 q6 q7 q8 q9 q10 q11 q12 q13 q14 q15 q16 q17 q18 q19 q20 q21 q22 q23 q24 q25 q26 q27 q28 q29 q30 q31 q32 q33 q34 q35 q36 q37 q38 q39 : Pos),
    bg = [.Assign [.Tuple [.Name n4 q3, .Name n5 q4] k1 q5] (.Tuple [.Name n1 q6, .Name n2 q7] k2 q8) q9,
      .While (.Compare (.Name n4 q10) [.Lt] [.Name n5 q11] q12)
        [.Assign [.Name n6 q13] (.BinOp (.BinOp (.BinOp (.Name n4 q14) .Add (.Name n5 q15) q16) .Add (.Constant (.int 1) j1 q17) q18) .FloorDiv (.Constant (.int 2) j2 q19) q20) q21,
         .If (.Call (.Name n3 q22) [.Call (.Name x q23) [.Name n6 q24, .Name n0 q25] [] q26] [] q27) [.Assign [.Name n4 q28] (.Name n6 q29) q30] [.Assign [.Name n5 q31] (.BinOp (.Name n6 q32) .Sub (.Constant (.int 1) j3 q33) q34) q35] q36] [] q37,
      .Return (some (.Name n4 q38)) q39] ∧
    Ng = [n0, n1, n2, n3, n4, n5, n6] ∧ Ng.Nodup ∧ (∀ y ∈ Ng, sg.names.lookup y = some .local ∧ nameOk1 y) ∧ sg.names.lookup x = some .globalImplicit ∧ nameOk1 x ∧
    (∀ env : Env, env.scope = sg → swappedStores [.Tuple [.Name n4 q3, .Name n5 q4] k1 q5] (.Tuple [.Name n1 q6, .Name n2 q7] k2 q8) env = pure (some [n4, n5]))
theorem rle7 {K : PySem.W.Frag} {H : Hp} {μ : List Addr} {d0 : D} {v0 v1 v2 v3 : V} {lo hi : Int} {o : Option V} {od : Option D} (r : Rl K cl H μ d0 v0) (ro : ∀ d, od = some d → ∃ v, o = some v ∧ Rl K cl H μ d v) :
    RlE K cl H μ [some v0, some v1, some v2, some v3, some (.int lo), some (.int hi), o] [some d0, none, none, none, some (.int lo), some (.int hi), od] := by
  refine ⟨rfl, fun i d e => ?_⟩
  match i, e with
  | 0, e => cases e; exact ⟨v0, rfl, r⟩
  | 1, e => cases e
  | 2, e => cases e
  | 3, e => cases e
  | 4, e => cases e; exact ⟨_, rfl, Rl.int_iff.mpr rfl⟩
  | 5, e => cases e; exact ⟨_, rfl, Rl.int_iff.mpr rfl⟩
  | 6, e =>
    have e : od = some d := by simpa using e
    obtain ⟨v, rfl, r⟩ := ro d e
    exact ⟨v, rfl, r⟩
  | n + 7, e => simp at e
set_option maxHeartbeats 2000000 in
theorem near_gives {Ng : List Str} {qg x : Str} {sg : Scope} {g f c' fx : Addr} {cdg : Value} {bg : List Stmt} {Q : VK} {ml : En → Hh → R D} {rw_ : Fn} {W0 : HS.X → Hh → List Addr → Hp → Prop} {q : Str} {ps : List Str} {fd : FuncData} {k j : Nat}
    (T : TdNear Ng sg x bg) (sy : SysOk X.base) (hg : X.A.guards = some []) (hr : Room k (X.A.deeper (envOfC qg sg s.heap.objs.size g cdg))) (F : HS.Cal X cl k x ps rw_ fx fd) (hk : sg.kind = .function)
    (act : ∀ (n3 : Str) (p1 p2 : Pos) (e : Expr) (te : TE), Ng[3]? = some n3 → Vis sg n3 → nameOk1 n3 → plainX e = true → PE (nCx X Ng qg sg g cdg s H) e te → PE (nCx X Ng qg sg g cdg s H) (.Call (.Name n3 p1) [e] [] p2) (fun σZ HZ Q => σZ[3]? = some (some (.ref f)) ∧ te σZ HZ fun v H1 => H1 c' = some (LamX.CodeO c' q) ∧ tE X.K cl NoW ml (σ.set j (some v)) H1 Q))
    {μ : List Addr} {ρ : En} {h : Hh} {HH : Hp} {d0 : D} {v0 : V} {lo0 hi0 : Int} (hc : HH c' = some (LamX.CodeO c' q)) (re : RlE X.K cl HH μ σ ρ) (rh : RlH X.K cl HH μ h) (r0 : Rl X.K cl HH μ d0 v0)
    (pg : Pg X.K cl μ HH (nearL rw_ (fun d h => (ml (ρ.set j (some d)) h).bind asBl) d0 (.int lo0) (.int hi0) h) (VP X.K cl Q) W0) :
    ∃ t, PSs (nCx X Ng qg sg g cdg s H) bg t ∧ t { nx := fun _ H' => Q .non H', rt := Q } (L2.start Ng [v0, .int lo0, .int hi0, .ref f]) HH := by
  obtain ⟨n0, n1, n2, n3, n4, n5, n6, doc, jd, k1, k2, j1, j2, j3, q1, q2, q3, q4, q5, q6, q7, q8, q9, q10, q11, q12, q13, q14, q15, q16, q17, q18, q19, q20, q21, q22, q23, q24, q25, q26, q27, q28, q29, q30, q31, q32, q33, q34, q35, q36, q37, q38, q39, rfl, rfl, nd, loc, gx, nx, hw⟩ := T.ex
  have l0 := loc n0 (by simp)
  have l1 := loc n1 (by simp)
  have l2 := loc n2 (by simp)
  have l3 := loc n3 (by simp)
  have l4 := loc n4 (by simp)
  have l5 := loc n5 (by simp)
  have l6 := loc n6 (by simp)
  have hu : (nCx X [n0, n1, n2, n3, n4, n5, n6] qg sg g cdg s H).A.units + 65 < cLine := by
    have := hr.un
    show (X.A.deeper (envOfC qg sg s.heap.objs.size g cdg)).units + 65 < cLine
    omega
  have F' : HS.Cal (nCx X [n0, n1, n2, n3, n4, n5, n6] qg sg g cdg s H) cl k x ps rw_ fx fd := ⟨F.fn, F.mg, F.kp, F.bd⟩
  have var : ∀ {i : Nat} {y : Str} {p : Pos}, [n0, n1, n2, n3, n4, n5, n6][i]? = some y → sg.names.lookup y = some .local ∧ nameOk1 y → PE (nCx X [n0, n1, n2, n3, n4, n5, n6] qg sg g cdg s H) (.Name y p) (tE X.K cl NoW fun ρ h => match ρ[i]? with | some (some d) => .ok d h | _ => .bad) :=
    fun {i y p} hi l => sVar (X := nCx X [n0, n1, n2, n3, n4, n5, n6] qg sg g cdg s H) hi (.inl l.1) l.2.1 l.2.2
  have rvar : ∀ {i : Nat} {y : Str} {p : Pos}, [n0, n1, n2, n3, n4, n5, n6][i]? = some y → sg.names.lookup y = some .local ∧ nameOk1 y → PE (nCx X [n0, n1, n2, n3, n4, n5, n6] qg sg g cdg s H) (.Name y p) (tVar i) :=
    fun {i y p} hi l => pe_var (X := nCx X [n0, n1, n2, n3, n4, n5, n6] qg sg g cdg s H) hi (.inl l.1) l.2.1 l.2.2
  have kint : ∀ {i : Int} {j : Nat} {p : Pos}, PE (nCx X [n0, n1, n2, n3, n4, n5, n6] qg sg g cdg s H) (.Constant (.int i) j p) (tE X.K cl NoW fun _ h => .ok (.int i) h) := sVal pe_int fun _ _ => Rl.int_iff.mpr rfl
  have hcond := sCmpT (X := nCx X [n0, n1, n2, n3, n4, n5, n6] qg sg g cdg s H) (pos := q12) (o := .Lt) hu sy rfl (var (i := 4) (p := q10) rfl l4) (var (i := 5) (p := q11) rfl l5)
  have hmid := sBin (pos := q20) (o := .fdiv) (sBin (pos := q18) (o := .add) (sBin (pos := q16) (o := .add) (var (i := 4) (p := q14) rfl l4) (var (i := 5) (p := q15) rfl l5)) (kint (i := 1) (j := j1) (p := q17))) (kint (i := 2) (j := j2) (p := q19))
  have hlow := sBin (pos := q34) (o := .sub) (var (i := 6) (p := q32) rfl l6) (kint (i := 1) (j := j3) (p := q33))
  have hrat := sCall (X := nCx X [n0, n1, n2, n3, n4, n5, n6] qg sg g cdg s H) (W := NoW) (p := q23) (pos := q26) F' hg hr takes0 gx nx.1 rfl (sCons rfl (var (i := 6) (p := q24) rfl l6) (sCons rfl (var (i := 0) (p := q25) rfl l0) sNil))
  have htest := act n3 q22 q27 _ _ rfl (.inl l3.1) l3.2 rfl hrat
  refine ⟨_, (pss_cons (ps_par (X := nCx X [n0, n1, n2, n3, n4, n5, n6] qg sg g cdg s H) (i := 4) (j := 5) rfl nd rfl rfl (by decide) l4.1 l5.1 (pa_cons (rvar (i := 1) (p := q6) rfl l1) (pa_cons (rvar (i := 2) (p := q7) rfl l2) pa_nil rfl) rfl) (hw _ rfl))
    (pss_cons (ps_while (passes_of rfl) hcond (pss_cons (ps_set (X := nCx X [n0, n1, n2, n3, n4, n5, n6] qg sg g cdg s H) (i := 6) nd rfl (.inl l6.1) hmid (hf := .inr l6.1))
      (pss_one (ps_if (pt_val htest) (pss_one (ps_set (X := nCx X [n0, n1, n2, n3, n4, n5, n6] qg sg g cdg s H) (i := 4) nd rfl (.inl l4.1) (rvar (i := 6) (p := q29) rfl l6) (hf := .inr l4.1))) (pss_one (ps_set (X := nCx X [n0, n1, n2, n3, n4, n5, n6] qg sg g cdg s H) (i := 5) nd rfl (.inl l5.1) hlow (hf := .inr l5.1)))))))
    (pss_one (ps_ret (rvar (i := 4) (p := q38) rfl l4))))), ?_⟩
  refine ⟨_, rfl, _, rfl, _, _, rfl, ?_⟩
  refine ⟨fun n σZ HZ => ∃ μ h lo hi o, σZ = [some v0, some (.int lo0), some (.int hi0), some (.ref f), some (.int lo), some (.int hi), o] ∧ RlE X.K cl HZ μ σ ρ ∧ RlH X.K cl HZ μ h ∧ Rl X.K cl HZ μ d0 v0 ∧ HZ c' = some (LamX.CodeO c' q) ∧
      Pg X.K cl μ HZ (nearN rw_ (fun d h => (ml (ρ.set j (some d)) h).bind asBl) d0 n lo hi h) (VP X.K cl Q) W0, ⟨_, μ, h, lo0, hi0, none, rfl, re, rh, r0, hc, pg⟩, ?_⟩
  rintro n σZ HZ ⟨μ, h, lo, hi, o, rfl, re, rh, r0, hc, pg⟩
  cases n with
  | zero => exact pg.elim
  | succ n =>
    unfold nearN at pg
    refine ⟨μ, _, h, rle7 (od := none) r0 (fun _ z => nomatch z), rh, ?_⟩
    show Pg _ _ _ _ (R.ok (decide (lo < hi)) h) _ _
    intro μ1 H1 g1
    by_cases hlt : lo < hi
    · rw [decide_eq_true hlt]
      change (if true = true then _ else _)
      rw [if_pos rfl]
      rw [if_pos hlt] at pg
      refine ⟨_, fun σ' H' z => ⟨n, Nat.lt_succ_self n, z⟩, ?_⟩
      cases em : bop .fdiv (.int (lo + hi + 1)) (.int 2) h with
      | bad => rw [em] at pg; exact pg.elim
      | ex _ _ => rw [em] at pg; exact pg.elim
      | ok dm h1 =>
        have eh : h1 = h ∧ ∃ m : Int, dm = .int m := by
          simp only [bop] at em
          split at em
          · cases em; exact ⟨rfl, _, rfl⟩
          · cases em
        obtain ⟨rfl, m, rfl⟩ := eh
        rw [em] at pg
        dsimp only at pg
        refine ⟨μ1, _, h1, rle7 (od := none) (r0.mono g1.tp g1.pre) (fun _ z => nomatch z), g1.rh, ?_⟩
        show Pg _ _ _ _ (bop .fdiv (.int (lo + hi + 1)) (.int 2) h1) _ _
        rw [em]
        intro μ2 H2 g2 vm rvm
        rw [Rl.int_iff] at rvm
        subst rvm
        have g12 := g1.trans g2
        cases e1 : rw_ [.int m, d0] h1 with
        | bad => rw [e1] at pg; exact pg.elim
        | ex _ _ => rw [e1] at pg; exact pg.elim
        | ok d h2 =>
          rw [e1] at pg
          dsimp only at pg
          refine ⟨rfl, μ2, _, h1, rle7 (od := some (.int m)) (r0.mono g12.tp g12.pre) (fun d z => by cases z; exact ⟨_, rfl, Rl.int_iff.mpr rfl⟩), g2.rh, ?_⟩
          show Pg _ _ _ _ (rw_ [.int m, d0] h1) _ _
          rw [e1]
          intro μ3 H3 g3 v rv
          have g13 := g12.trans g3
          refine ⟨code_kept rh hc g13, μ3, ρ.set j (some d), h2, (re.mono g13.tp g13.pre).set rv j, g3.rh, ?_⟩
          cases e2 : ml (ρ.set j (some d)) h2 with
          | bad => rw [e2] at pg; exact pg.elim
          | ex _ _ => rw [e2] at pg; exact pg.elim
          | ok db h3 =>
            rw [e2] at pg
            intro μ4 H4 g4 vb rvb
            have g14 := g13.trans g4
            cases db with
            | bl b =>
              rw [Rl.bl_iff] at rvb
              subst rvb
              refine ⟨b, rfl, ?_⟩
              cases b with
              | true =>
                rw [if_pos rfl]
                refine ⟨_, rfl, μ4, h3, m, hi, some (.int m), rfl, re.mono g14.tp g14.pre, g4.rh, r0.mono g14.tp g14.pre, code_kept rh hc g14, Pg.far g14 pg⟩
              | false =>
                rw [if_neg (by decide)]
                refine ⟨μ4, _, h3, rle7 (od := some (.int m)) (r0.mono g14.tp g14.pre) (fun d z => by cases z; exact ⟨_, rfl, Rl.int_iff.mpr rfl⟩), g4.rh, ?_⟩
                show Pg _ _ _ _ (R.ok (D.int (m - 1)) h3) _ _
                intro μ5 H5 g5 v5 rv5
                rw [Rl.int_iff] at rv5
                subst rv5
                have g15 := g14.trans g5
                exact ⟨μ5, h3, lo, m - 1, some (.int m), rfl, re.mono g15.tp g15.pre, g5.rh, r0.mono g15.tp g15.pre, code_kept rh hc g15, Pg.far g15 pg⟩
            | _ => exact pg.elim
    · rw [decide_eq_false hlt]
      change (if false = true then _ else _)
      rw [if_neg (by decide)]
      rw [if_neg hlt] at pg
      exact ⟨_, rfl, pg μ1 H1 g1 _ (Rl.int_iff.mpr rfl)⟩
set_option maxHeartbeats 1000000 in
/-- x(e0, e1, e2, lambda p: body), x such a def -/
theorem sNear {W : WX} {x xr p : Str} {st : Stmt} {g fx : Addr} {fd fdr : FuncData} {Ng psn psr : List Str} {k j : Nat} {e0 e1 e2 body : Expr} {scope : Scope} {lpos pp pos ap : Pos} {m0 m1 m2 ml : En → Hh → R D} {rw_ : Fn}
    (F : L2.Fun X.K x x st g fd) (mgf : X.mg x = some (.ref g)) (bd : ∀ (s : Shared) (us : List Value), us.length = 4 → BindsTo s fd ⟨us, []⟩ (psn.zip us)) (hps : psn.length = 4) (S : FnScope Ng psn (defScope st)) (T : TdNear Ng (defScope st) xr (defBody st))
    (sy : SysOk X.base) (LO : LamOk X cl) (hg : X.A.guards = some []) (hr : Room (k + 2) X.A) (hx : Gl X x) (hdb : (x == ("__debug__" : Str)) = false) (L : LamS1 X.env.scope scope p) (hb1 : Bind1 p) (hXN : X.N.Nodup) (hj : X.N[j]? = some p)
    (C : HS.Cal X cl (k + 1) xr psr rw_ fx fdr) (hp0 : plainX e0 = true) (hp1 : plainX e1 = true) (hp2 : plainX e2 = true)
    (h0 : PE X e0 (tE X.K cl W m0)) (h1 : PE X e1 (tE X.K cl W m1)) (h2 : PE X e2 (tE X.K cl W m2))
    (hbody : ∀ (A : Around) (outer : List Env) (s : Shared) (H : Hp) (f c' : Addr), A.guards = some [] → Room k (A.deeper (LamX.lamEnv X scope s.heap.objs.size f c')) → PE (LamX.lamCx X A outer s H (fun _ _ _ => False) scope f c') body (tE X.K cl NoW ml)) :
    PE X (.Call (.Name x pp) [e0, e1, e2, .Lambda (oneArg p ap) body scope lpos] [] pos) (tE X.K cl W fun ρ h => (m0 ρ h).bind fun d0 h => (m1 ρ h).bind fun d1 h => (m2 ρ h).bind fun d2 h => nearL rw_ (fun d h => (ml (ρ.set j (some d)) h).bind asBl) d0 d1 d2 h) := by
  refine ⟨fun pins s σ H Q I ⟨μ, ρ, h, re, rh, pg⟩ => ?_⟩
  obtain ⟨c, P, hcode, TB, hmT, hu⟩ := LO.ex
  obtain ⟨oc, od, kV, doc, pm, an, cdv, ct, osl, rfl, lk, hcg⟩ := F.ex
  refine wpAny_Call_Name_kw (ld_glob I hx mgf ?_ hdb)
  refine PySem.W.callWith_K (h₀ := X.base) I.ok.mod.kin F.kp ?_ (star_cons hp0) (back_plain (by simp only [List.all_cons, hp1, hp2]; rfl))
  rw [star_cons hp0, star_cons hp1, star_cons hp2]
  show wpAny _ _ (spliced ((false, eval e0 X.env) :: (false, eval e1 X.env) :: (false, eval e2 X.env) :: (false, eval (.Lambda (oneArg p ap) body scope lpos) X.env) :: backTo pos (starEach [] X.env))) _ _ s
  refine Calls.spliced_cons (thn (h0.run pins s σ H (fun v0 H1 => ∃ μ1 h1 d0, RlE X.K cl H1 μ1 σ ρ ∧ RlH X.K cl H1 μ1 h1 ∧ Rl X.K cl H1 μ1 d0 v0 ∧ Pg X.K cl μ1 H1 ((m1 ρ h1).bind fun d1 h => (m2 ρ h).bind fun d2 h => nearL rw_ (fun d h => (ml (ρ.set j (some d)) h).bind asBl) d0 d1 d2 h) (VP X.K cl Q) (wX X.K cl W σ)) I
    ⟨μ, ρ, h, re, rh, pg.bind.imp (fun d0 h1 μ1 H1 g1 p1 v rv => ⟨μ1, h1, d0, re.mono g1.tp g1.pre, g1.rh, rv, p1⟩) fun _ _ _ _ _ w => w⟩) ?_)
  rintro u0 s1 ⟨v0, H1, I1, r0, μ1, h1', d0, re1, rh1, rl0, p1⟩
  refine Calls.spliced_cons (thn (h1.run pins s1 σ H1 (fun v1 H2 => ∃ μ2 h2 d1, RlE X.K cl H2 μ2 σ ρ ∧ RlH X.K cl H2 μ2 h2 ∧ Rl X.K cl H2 μ2 d0 v0 ∧ Rl X.K cl H2 μ2 d1 v1 ∧ Pg X.K cl μ2 H2 ((m2 ρ h2).bind fun d2 h => nearL rw_ (fun d h => (ml (ρ.set j (some d)) h).bind asBl) d0 d1 d2 h) (VP X.K cl Q) (wX X.K cl W σ)) I1
    ⟨μ1, ρ, h1', re1, rh1, p1.bind.imp (fun d1 h2 μ2 H2 g2 p2 v rv => ⟨μ2, h2, d1, re1.mono g2.tp g2.pre, g2.rh, rl0.mono g2.tp g2.pre, rv, p2⟩) fun _ _ _ _ _ w => w⟩) ?_)
  rintro u1 s2 ⟨v1, H2, I2, r1, μ2, h2', d1, re2, rh2, rl0, rl1, p2⟩
  refine Calls.spliced_cons (thn (h2.run pins s2 σ H2 (fun v2 H3 => ∃ μ3 h3 d2, RlE X.K cl H3 μ3 σ ρ ∧ RlH X.K cl H3 μ3 h3 ∧ Rl X.K cl H3 μ3 d0 v0 ∧ Rl X.K cl H3 μ3 d1 v1 ∧ Rl X.K cl H3 μ3 d2 v2 ∧ Pg X.K cl μ3 H3 (nearL rw_ (fun d h => (ml (ρ.set j (some d)) h).bind asBl) d0 d1 d2 h3) (VP X.K cl Q) (wX X.K cl W σ)) I2
    ⟨μ2, ρ, h2', re2, rh2, p2.bind.imp (fun d2 h3 μ3 H3 g3 p3 v rv => ⟨μ3, h3, d2, re2.mono g3.tp g3.pre, g3.rh, rl0.mono g3.tp g3.pre, rl1.mono g3.tp g3.pre, rv, p3⟩) fun _ _ _ _ _ w => w⟩) ?_)
  rintro u2 s3 ⟨v2, H3, I3, r2, μ3, h3', d2, re3, rh3, rl0, rl1, rl2, p3⟩
  obtain ⟨lo, hi, rfl, rfl⟩ : ∃ lo hi : Int, d1 = .int lo ∧ d2 = .int hi := by
    unfold nearL at p3
    split at p3
    · exact ⟨_, _, rfl, rfl⟩
    · exact p3.elim
  rw [Rl.int_iff] at rl1 rl2
  subst rl1 rl2
  refine Calls.spliced_cons (LamX.lam_make2 I3 TB hcode hmT hu rh3.tb rfl (L.has I3.ok) fun f c' pm' ctv H4 s' I4 eN T1 hf hfn hfr hco => ?_)
  refine Calls.spliced_nil ⟨I4.kIn, ?_⟩
  have tp : Tp H3 H4 := ⟨fun b xs e => eN b _ e (fun ps z => by cases z), fun b o u e => eN b _ e (fun ps z => by cases z), fun b y e => eN b _ e (fun ps z => by cases z), fun b y z e => eN b _ e (fun ps z => by cases z)⟩
  have gst : Go X.K cl μ3 H3 h3' μ3 H4 := by
    refine ⟨List.prefix_rfl, tp, fun b o _ nt e => eN b o e nt, fun _ m => .inl m, T1, rh3.len, rh3.nd, fun n d b e1 e2 => ?_⟩
    have q := rh3.at_ n d b e1 e2
    obtain ⟨o, eo⟩ := q.there
    have nt : ∀ ps, o ≠ .tbl ps := fun ps z => by
      subst z
      cases d with
      | lst xs => obtain ⟨vs, q, _⟩ := q; rw [eo] at q; cases q
      | dic kvs => have q := q.2; rw [eo] at q; cases q
      | ins _ _ => obtain ⟨_, _, _, _, q, _⟩ := q; rw [eo] at q; cases q
      | dit _ => obtain ⟨_, q, _⟩ := q; rw [eo] at q; cases q
    exact q.mono tp List.prefix_rfl (by rw [eN b o eo nt, eo])
  have re4 := re3.mono tp List.prefix_rfl
  have pg4 := Pg.far gst p3
  have ran : codeAny (model X.prog X.w) X.A (.call (.ref g) ⟨[u0, u1, u2, .ref f], []⟩) (CR (L2.CX X.prog X.w) X.stack X.prog X.w H4 s' Q (fun _ _ _ => False)) s' := by
    refine LamX.run_ofS (CX := L2.CX X.prog X.w) (E := fun _ _ _ => False) (N := Ng) (ps := psn) (us := [u0, u1, u2, .ref f]) (vs := [v0, .int lo, .int hi, .ref f]) lk hcg S hr I4.env0 (bd s' _ rfl) (.cons r0 (.cons r1 (.cons r2 (.cons rfl .nil)))) hps.symm fun hr' => ?_
    exact near_gives T sy hg hr' C S.kind (fun n3 p1 p2 e te h3 hv hn hp he => act1 hb1 I4 L hXN hj hf hfn hfr hg hr' (fun A outer s H hga hr2 => hbody A outer s H f c' hga hr2) h3 hv hn.1 hn.2 hp he) hco re4 gst.rh (rl0.mono tp List.prefix_rfl) pg4
  refine wpAny_call (codeAny_mono ran fun r s2 z => ?_)
  match r, z with
  | .error e, z =>
    obtain ⟨_, _, _, _, _, _, _, _, _, _, _, _, bad⟩ := z
    exact bad.elim
  | .ok (.ret u), z => exact I4.after z
  | .ok .next, z => exact False.elim z
  | .ok .brk, z => exact False.elim z
  | .ok .cont, z => exact False.elim z
end
end HS

/-! Ranges as values, dicts with tuples as keys, xs[i] op= e. -/
namespace HS
open PySem L2 PyProof.Rows
section
variable {X : Cx} {cl : Md} {W : WX} {ma mb mc : En → Hh → R D} {a b c tg : Expr} {pos pos' : Pos}
theorem sRgv (ha : PE X a (tE X.K cl W ma)) : PI X tg a (tI X.K cl W fun ρ h => (ma ρ h).bind fun x h => rgvD x h) := by
  have lo : ∀ {i : Int}, small62 i = true → -(2 ^ 62) ≤ i ∧ i < 2 ^ 62 := fun h => of_decide_eq_true h
  refine ⟨fun pins s σ H R I ⟨μ, ρ, h, re, rh, pg⟩ => ?_⟩
  refine thn (ha.run pins s σ H (fun v H1 => ∃ μ1 h1 x, RlH X.K cl H1 μ1 h1 ∧ Rl X.K cl H1 μ1 x v ∧ Pg X.K cl μ1 H1 (rgvD x h1) (fun p _ μ' H' => ∀ J, Srcs X.K cl μ' H' J p.1 p.2 → R J H') (wX X.K cl W σ)) I ⟨μ, ρ, h, re, rh, pg.bind.imp (fun x h1 μ1 H1 g1 p1 v rv => ⟨μ1, h1, x, g1.rh, rv, p1⟩) fun _ _ _ _ _ w => w⟩) fun u s1 ⟨v, H1, I1, r1, μ1, h1, x, rh1, rv, p1⟩ => ?_
  unfold rgvD at p1
  split at p1
  · rename_i i j
    obtain ⟨q, rfl, hq⟩ := Rl.rng_iff.mp rv
    obtain rfl : u = Value.ref q := r1
    split at p1
    · rename_i hj
      rw [Bool.and_eq_true] at hj
      obtain ⟨q1, q2⟩ := lo hj.1
      obtain ⟨q3, q4⟩ := lo hj.2
      obtain ⟨t, t2, t3, ho⟩ := I1.hok q _ hq
      refine wpAny_pyIter_range (show IsRange s1.heap q i j 1 t t2 t3 from ho) (small_one q1 q2 q3 q4) ?_
      refine ⟨s1.heap.objs.size, [s1.heap.objs.size], _, _, H1, rfl, I1.kept (t' := s1.toks) fun b o e => Heap.get?_push_of_some _ e, turn_range _ i (j - i).toNat, ?_, fun b hb => ?_, p1 μ1 H1 (.refl rh1) _ src_up⟩
      · have e1 : i + ((0 : Nat) : Int) * 1 = i := by simp
        have e2 : (((j - i).toNat : Nat) : Int) - ((0 : Nat) : Int) = Builtin.Range.rangeSize i j 1 := by rw [rangeSize_one]; split <;> omega
        show IsRangeIter _ _ (i + ((0 : Nat) : Int) * 1) ((((j - i).toNat : Nat) : Int) - ((0 : Nat) : Int)) 1
        rw [e1, e2]
        exact Heap.get?_push_size _ rfl
      · have e : b = s1.heap.objs.size := by simpa using hb
        subst e
        exact I1.fpOk (Nat.le_refl _) (I1.hok.fresh (Nat.le_refl _))
    · exact p1.elim
  · exact p1.elim
theorem sDicT : PE X (.Dict [] [] pos) (tE X.K cl W fun _ h => alloc (.dit []) h) := by
  refine wkE pe_xnew fun σ H Q ⟨μ, ρ, h, re, rh, pg⟩ p np => ?_
  refine pg (μ ++ [p]) _ (.alloc rh np ⟨[], upd_same, (by intro y m; cases m), rfl, Rls.nil.mpr rfl⟩) _ (Rl.ref_iff.mpr ⟨p, rfl, ?_⟩)
  rw [← rh.len]
  simp
section
variable {K : PySem.W.Frag} {H : Hp} {μ : List Addr} {h : Hh}
/-- a dict cell -/
theorem RlH.dit {n : Nat} {kvs : List (List Int × D)} {v : V} (r : RlH K cl H μ h) (e : h[n]? = some (.dit kvs)) (q : Rl K cl H μ (.ref n) v) :
    ∃ a ys, v = .ref a ∧ μ[n]? = some a ∧ H a = some (.ext (DTo a ys)) ∧ KeysT K H ys ∧ ys.map (·.1) = kvs.map (·.1) ∧ Rls K cl H μ (kvs.map (·.2)) (ys.map (·.2.2)) := by
  obtain ⟨a, rfl, m⟩ := Rl.ref_iff.mp q
  obtain ⟨ys, e1, k, e2, r1⟩ := r.at_ n _ a e m
  exact ⟨a, ys, rfl, m, e1, k, e2, r1⟩
theorem ditAt_at {x : D} {kvs : List (List Int × D)} (e : ditAt h x = some kvs) : ∃ n, x = .ref n ∧ h[n]? = some (.dit kvs) := by
  unfold ditAt at e
  split at e
  · rename_i n
    split at e
    · cases e; exact ⟨n, rfl, by assumption⟩
    · cases e
  · cases e
theorem keyD_at {y : D} {ks : List Int} {v : V} (e : keyD y = some ks) (r : Rl K cl H μ y v) : ∃ b, v = .ref b ∧ SqT K H b (ks.map V.int) := by
  unfold keyD at e
  split at e
  · rename_i xs
    obtain ⟨b, vs, rfl, s, r1⟩ := Rl.tup_iff.mp r
    rw [intsOf_map e, Rls.ints] at r1
    subst r1
    exact ⟨b, rfl, s⟩
  · cases e
theorem find_rel : ∀ {kvs : List (List Int × D)} {ys : List Ent} (k : List Int), ys.map (·.1) = kvs.map (·.1) → Rls K cl H μ (kvs.map (·.2)) (ys.map (·.2.2)) →
    (findD kvs k = none ∧ findV ys k = none) ∨ ∃ d v, findD kvs k = some d ∧ findV ys k = some v ∧ Rl K cl H μ d v
  | [], [], k, _, _ => .inl ⟨rfl, rfl⟩
  | [], _ :: _, k, e, _ => by simp at e
  | _ :: _, [], k, e, _ => by simp at e
  | p :: kvs, y :: ys, k, e, r => by
    rw [List.map_cons, List.map_cons] at e
    injection e with e1 e2
    rw [List.map_cons, List.map_cons, Rls.cons] at r
    obtain ⟨v, r', e3, r1, r2⟩ := r
    injection e3 with e3 e4
    subst e3 e4
    by_cases c : p.1 = k
    · exact .inr ⟨p.2, y.2.2, by simp [findD, List.find?_cons, c], by simp [findV, List.find?_cons, e1, c], r1⟩
    · have a1 : findD (p :: kvs) k = findD kvs k := by simp [findD, List.find?_cons, c]
      have a2 : findV (y :: ys) k = findV ys k := by simp [findV, List.find?_cons, e1, c]
      rw [a1, a2]
      exact find_rel k e2 r2
theorem repl_rel {d : D} {v : V} {k : List Int} (rd : Rl K cl H μ d v) : ∀ {kvs : List (List Int × D)} {ys : List Ent}, ys.map (·.1) = kvs.map (·.1) → Rls K cl H μ (kvs.map (·.2)) (ys.map (·.2.2)) →
    (ys.map fun y => if y.1 = k then (y.1, y.2.1, v) else y).map (·.1) = (kvs.map fun p => if p.1 = k then (p.1, d) else p).map (·.1) ∧
      Rls K cl H μ ((kvs.map fun p => if p.1 = k then (p.1, d) else p).map (·.2)) ((ys.map fun y => if y.1 = k then (y.1, y.2.1, v) else y).map (·.2.2))
  | [], [], _, _ => ⟨rfl, by simp [Rls]⟩
  | [], _ :: _, e, _ => by simp at e
  | _ :: _, [], e, _ => by simp at e
  | p :: kvs, y :: ys, e, r => by
    rw [List.map_cons, List.map_cons] at e
    injection e with e1 e2
    rw [List.map_cons, List.map_cons, Rls.cons] at r
    obtain ⟨v', r', e3, r1, r2⟩ := r
    injection e3 with e3 e4
    subst e3 e4
    obtain ⟨i1, i2⟩ := repl_rel rd e2 r2
    simp only [List.map_cons]
    by_cases c : p.1 = k
    · rw [if_pos c, if_pos (e1.trans c)]
      exact ⟨by rw [i1]; simp [e1], Rls.cons.mpr ⟨_, _, rfl, rd, i2⟩⟩
    · rw [if_neg c, if_neg (fun z => c (e1.symm.trans z))]
      exact ⟨by rw [i1, e1], Rls.cons.mpr ⟨_, _, rfl, r1, i2⟩⟩
theorem put_rel {d : D} {v : V} {k : List Int} {b : Addr} {kvs : List (List Int × D)} {ys : List Ent} (rd : Rl K cl H μ d v) (e : ys.map (·.1) = kvs.map (·.1)) (r : Rls K cl H μ (kvs.map (·.2)) (ys.map (·.2.2))) :
    (putV ys k b v).map (·.1) = (putKD kvs k d).map (·.1) ∧ Rls K cl H μ ((putKD kvs k d).map (·.2)) ((putV ys k b v).map (·.2.2)) := by
  unfold putV putKD
  rcases find_rel k e r with ⟨f1, f2⟩ | ⟨x, u, f1, f2, _⟩
  · rw [f1, f2]
    simp only [Option.isSome_none, Bool.false_eq_true, if_false, List.map_append, List.map_cons, List.map_nil]
    exact ⟨by rw [e], r.append (Rls.one rd)⟩
  · rw [f1, f2]
    simp only [Option.isSome_some, if_true]
    exact repl_rel rd e r
theorem putV_keys {ys : List Ent} {k : List Int} {b : Addr} {v : V} (h : KeysT K H ys) (s : SqT K H b (k.map V.int)) : KeysT K H (putV ys k b v) := by
  unfold putV
  split
  · intro y m
    obtain ⟨z, hz, rfl⟩ := List.mem_map.mp m
    split
    · exact h z hz
    · exact h z hz
  · intro y m
    rcases List.mem_append.mp m with m | m
    · exact h y m
    · rw [List.mem_singleton.mp m]; exact s
end
theorem sDix (hu : X.A.units + 65 < cLine) (hp : plainX b = true) (ha : PE X a (tE X.K cl W ma)) (hb : PE X b (tE X.K cl W mb)) :
    PE X (.Subscript a b pos) (tE X.K cl W fun ρ h => (ma ρ h).bind fun x h => (mb ρ h).bind fun y h => dixD x y h) := by
  refine wkE (pe_xget (by omega) ha hb (sub_plain hp)) fun σ H Q ⟨μ, ρ, h, re, rh, pg⟩ => ⟨μ, ρ, h, re, rh, pg.bind.imp (fun x h1 μ1 H1 g1 p1 v rv => ?_) fun _ _ _ _ _ w => w⟩
  refine ⟨μ1, ρ, h1, re.mono g1.tp g1.pre, g1.rh, p1.bind.imp (fun y h2 μ2 H2 g2 p2 u ru => ?_) fun _ _ _ _ _ w => w⟩
  have rv2 := rv.mono g2.tp g2.pre
  unfold dixD at p2
  split at p2 <;> try exact p2.elim
  rename_i kvs ks ek eks
  obtain ⟨n, rfl, en⟩ := ditAt_at ek
  obtain ⟨a1, ys, rfl, m, e1, k, e2, r1⟩ := g2.rh.dit en rv2
  obtain ⟨b1, rfl, sb⟩ := keyD_at eks ru
  split at p2 <;> try exact p2.elim
  rename_i d ed
  rcases find_rel ks e2 r1 with ⟨f1, f2⟩ | ⟨x, w, f1, f2, rr⟩
  · rw [f1] at ed; cases ed
  · rw [f1] at ed; cases ed
    exact ⟨a1, ys, b1, ks, w, rfl, e1, k, rfl, sb, f2, p2.val g2.rh rr⟩
theorem sDget {o : Expr} {apos : Pos} {mo : En → Hh → R D} (hu : X.A.units + 65 < cLine) (hbase : attributeBase o "get" X.env (eval o X.env) = eval o X.env) (hline : (apos.endLine == pos.line) = true) (hpa : plainX a = true) (hpb : plainX b = true)
    (ho : PE X o (tE X.K cl W mo)) (ha : PE X a (tE X.K cl W ma)) (hb : PE X b (tE X.K cl W mb)) :
    PE X (.Call (.Attribute o "get" apos) [a, b] [] pos) (tE X.K cl W fun ρ h => (mo ρ h).bind fun x h => if isDit x h = true then (ma ρ h).bind fun y h => (mb ρ h).bind fun z h => dgetD x y z h else .bad) := by
  have st : starEach [a, b] X.env = [(false, eval a X.env), (false, eval b X.env)] := by
    rw [star_cons hpa, star_cons hpb]
    rfl
  refine wkE (pe_xget2 (by omega) ho ha hb ⟨hbase, by rw [st]; rfl, hline, by rw [st]; rfl⟩) fun σ H Q ⟨μ, ρ, h, re, rh, pg⟩ => ⟨μ, ρ, h, re, rh, pg.bind.imp (fun x h1 μ1 H1 g1 p1 v rv => ?_) fun _ _ _ _ _ w => w⟩
  split at p1 <;> try exact p1.elim
  rename_i hd
  unfold isDit at hd
  obtain ⟨kvs, ek⟩ := Option.isSome_iff_exists.mp hd
  obtain ⟨n, rfl, en⟩ := ditAt_at ek
  obtain ⟨a1, ys, rfl, m, e1, k, e2, r1⟩ := g1.rh.dit en rv
  refine ⟨a1, ys, rfl, e1, μ1, ρ, h1, re.mono g1.tp g1.pre, g1.rh, p1.bind.imp (fun y h2 μ2 H2 g2 p2 u ru => ?_) fun _ _ _ _ _ w => w⟩
  refine ⟨μ2, ρ, h2, (re.mono g1.tp g1.pre).mono g2.tp g2.pre, g2.rh, p2.bind.imp (fun z h3 μ3 H3 g3 p3 t rt => ?_) fun _ _ _ _ _ w => w⟩
  have rv3 := (rv.mono g2.tp g2.pre).mono g3.tp g3.pre
  have ru3 := ru.mono g3.tp g3.pre
  unfold dgetD at p3
  split at p3 <;> try exact p3.elim
  rename_i kvs' ks ek' eks
  obtain ⟨n', e0, en'⟩ := ditAt_at ek'
  cases e0
  obtain ⟨a2, ys', e0, m', e1', k', e2', r1'⟩ := g3.rh.dit en' rv3
  cases e0
  obtain ⟨b1, rfl, sb⟩ := keyD_at eks ru3
  refine ⟨ys', b1, ks, e1', k', rfl, sb, ?_⟩
  rcases find_rel ks e2' r1' with ⟨f1, f2⟩ | ⟨x, w, f1, f2, rr⟩
  · rw [f1] at p3; rw [f2]
    exact p3.val g3.rh rt
  · rw [f1] at p3; rw [f2]
    exact p3.val g3.rh rr
theorem sDput (hu : X.A.units + 65 < cLine) (ha : PE X a (tE X.K cl W ma)) (hb : PE X b (tE X.K cl W mb)) (hc : PE X c (tE X.K cl W mc)) (hs : swapsWith c (some (.Subscript a b pos')) pos.line X.env = pure false) :
    PS X (.Assign [.Subscript a b pos'] c pos) (tS X.K cl W fun ρ h => (mc ρ h).toF ρ fun v h => (ma ρ h).toF ρ fun x h => (mb ρ h).toF ρ fun y h => (dputD x y v h).calm.toF ρ fun _ h => .ok (.nx ρ) h) := by
  refine wkS (ps_xput (by omega) ha hb hc hs) fun D σ H ⟨μ, ρ, h, re, rh, pg⟩ => ⟨μ, ρ, h, re, rh, (pg.toF re).imp (fun d h1 μ1 H1 g1 p1 y ry => ?_) fun _ _ _ _ _ w => w⟩
  have re1 := re.mono g1.tp g1.pre
  refine ⟨μ1, ρ, h1, re1, g1.rh, (p1.toF re1).imp (fun o h2 μ2 H2 g2 p2 v rv => ?_) fun _ _ _ _ _ w => w⟩
  have re2 := re1.mono g2.tp g2.pre
  refine ⟨μ2, ρ, h2, re2, g2.rh, (p2.toF re2).imp (fun i h3 μ3 H3 g3 p3 u ru => ?_) fun _ _ _ _ _ w => w⟩
  have re3 := re2.mono g3.tp g3.pre
  have rv3 := rv.mono g3.tp g3.pre
  have ry3 := (ry.mono g2.tp g2.pre).mono g3.tp g3.pre
  unfold dputD at p3
  split at p3 <;> try exact p3.elim
  rename_i n
  split at p3 <;> try exact p3.elim
  rename_i kvs ks en eks
  split at p3 <;> try exact p3.elim
  rename_i hl
  obtain ⟨a1, ys, rfl, m, e1, k, e2, r1⟩ := g3.rh.dit en rv3
  obtain ⟨b1, rfl, sb⟩ := keyD_at eks ru
  have ll : ys.length = kvs.length := by
    have := congrArg List.length e2
    simpa using this
  refine ⟨a1, ys, b1, ks, rfl, e1, k, rfl, sb, by omega, ?_⟩
  obtain ⟨z1, z2⟩ := put_rel (k := ks) (b := b1) ry3 e2 r1
  have t : Tp H3 (upd H3 a1 (.ext (DTo a1 (putV ys ks b1 y)))) := Tp.upd_mut e1 trivial
  have g4 : Go X.K cl μ3 H3 (h3.set n (.dit (putKD kvs ks d))) μ3 (upd H3 a1 (.ext (DTo a1 (putV ys ks b1 y)))) :=
    .set g3.rh m e1 trivial (fun q => dto_code q) ⟨_, upd_same, t.keys (putV_keys k sb), z1, z2.mono t List.prefix_rfl⟩
  exact p3 μ3 _ g4 σ (re3.mono t List.prefix_rfl)
/-- o[i], an item of a list -/
def tGetL : V → V → Hp → VK → Prop := fun o i H Q => ∃ (l : Addr) (xs : List V) (k : Int) (v : V), o = .ref l ∧ i = .int k ∧ H l = some (.lst xs) ∧ 0 ≤ k ∧ k < 1000000 ∧ xs[k.toNat]? = some v ∧ Q v H
theorem get_listI : PGet X tGetL := by
  intro pins s σ H o i ov iv Q I ro ri h
  obtain ⟨l, xs, k, v, rfl, rfl, hl, k0, k1, e, q⟩ := h
  obtain rfl : ov = Value.ref l := ro
  obtain ⟨t, rfl⟩ := ri
  obtain ⟨its, rv, p, hz⟩ := I.list (SqL.of hl)
  obtain ⟨u, eu, ru⟩ := rv.get e
  exact wpAny_getItem_list p.isList k0 (by omega) (by simpa using eu) ⟨v, H, I, ru, q⟩
theorem aug_plain {i : Expr} (h : plainX i = true) : ∀ ov iv new, augStore i ov iv new = (do
    holding [new, ov, iv] (setItem ov iv new)
    release [new, ov, iv] []
    pure .next) := by
  intro ov iv new
  cases i <;> first | rfl | (exact absurd h (by decide)) | (exact absurd h (by simp [plainX]))
theorem sAug {k : Int} {kd : Nat} {kp tpos : Pos} (hp : plainX b = true) (ha : PE X a (tE X.K cl W ma)) (hb : PE X b (tE X.K cl W mb)) :
    PS X (.AugAssign (.Subscript a b tpos) .Add (.Constant (.int k) kd kp) pos) (tS X.K cl W fun ρ h => (ma ρ h).toF ρ fun x h => (mb ρ h).toF ρ fun y h => (augD x y k h).calm.toF ρ fun _ h => .ok (.nx ρ) h) := by
  refine wkS (ps_augS ha hb get_listI pe_int ip_add set_list (aug_plain hp)) fun D σ H ⟨μ, ρ, h, re, rh, pg⟩ => ⟨μ, ρ, h, re, rh, (pg.toF re).imp (fun o h1 μ1 H1 g1 p1 v rv => ?_) fun _ _ _ _ _ w => w⟩
  have re1 := re.mono g1.tp g1.pre
  refine ⟨μ1, ρ, h1, re1, g1.rh, (p1.toF re1).imp (fun i h2 μ2 H2 g2 p2 u ru => ?_) fun _ _ _ _ _ w => w⟩
  have re2 := re1.mono g2.tp g2.pre
  have rv2 := rv.mono g2.tp g2.pre
  unfold augD at p2
  split at p2 <;> try exact p2.elim
  rename_i n j
  rw [Rl.int_iff] at ru; subst ru
  split at p2 <;> try exact p2.elim
  rename_i xs ex
  obtain ⟨l, ws, rfl, m, s1, r1⟩ := g2.rh.lst ex rv2
  split at p2 <;> try exact p2.elim
  rename_i hj
  split at p2 <;> try exact p2.elim
  rename_i c ec
  obtain ⟨w, ew, rw'⟩ := r1.get ec
  rw [Rl.int_iff] at rw'; subst rw'
  have hlt : j.toNat < ws.length := (List.getElem?_eq_some_iff.mp ew).1
  refine ⟨l, ws, j, .int c, rfl, rfl, s1, hj.1, hj.2, ew, c, k, rfl, rfl, l, ws, j, j.toNat, rfl, rfl, s1, by unfold ixN; rw [if_pos hj.1, if_pos (by omega)], ?_⟩
  have t : Tp H2 (upd H2 l (.lst (ws.set j.toNat (.int (c + k))))) := Tp.upd_mut s1 trivial
  have g4 : Go X.K cl μ2 H2 (h2.set n (.lst (xs.set j.toNat (.int (c + k))))) μ2 (upd H2 l (.lst (ws.set j.toNat (.int (c + k))))) :=
    .set g2.rh m s1 trivial (not_code fun _ z => by cases z) ⟨_, upd_same, (r1.set (Rl.int_iff.mpr rfl) _).mono t List.prefix_rfl⟩
  exact p2 μ2 _ g4 σ (re2.mono t List.prefix_rfl)
end
end HS

/-! The evaluator's text fits the program's text: a check, and what it is good for. -/
namespace HS
open PySem L2 PyProof.Rows

/-- what the check knows: defs (name, parameters, level), keyword calls, constants, built-in names that nobody hides, gcd -/
structure Gt where
  fns : List (Str × Nat × Nat)
  kws : List (Nat × Nat × List Str × List Nat)
  glb : List Str
  blt : List Str
  gcd : Bool
  cls : List (Nat × Str) := []
  raz : List Nat := []
  td : List (Str × Tk) := []
  ats : List Str := []
  mts : List (Nat × Nat × Str) := []
  mks : List (Nat × Nat × Str) := []
  nr : List (Str × Nat) := []
/-- the place: the names' kinds, which names may be stored -/
structure Lx where
  sc : Scope
  fn : Str → Bool
  n : Nat
  lam : Bool
def visB (sc : Scope) (x : Str) : Bool :=
  match sc.names.lookup x with
  | some .local => true
  | some .cell => true
  | some .free => true
  | _ => false
def locB (sc : Scope) (x : Str) : Bool :=
  match sc.names.lookup x with
  | some .local => true
  | some .cell => true
  | _ => false
def gloB (sc : Scope) (x : Str) : Bool := decide (sc.names.lookup x = some .globalImplicit)
def nameOk (x : Str) : Bool := !(x == ("__debug__" : Str)) && !(x == ("__classdict__" : Str)) && !decide (x = ("__name__" : Str)) && !decide (x = ("" : Str))
theorem visB_ok {sc : Scope} {x : Str} (h : visB sc x = true) : Vis sc x := by
  unfold visB at h
  split at h
  · exact .inl (by assumption)
  · exact .inr (.inl (by assumption))
  · exact .inr (.inr (by assumption))
  · cases h
theorem locB_ok {sc : Scope} {x : Str} (h : locB sc x = true) : Loc sc x := by
  unfold locB at h
  split at h
  · exact .inl (by assumption)
  · exact .inr (by assumption)
  · cases h
def T.own : T → List Nat
  | .nm i => [i]
  | .tup ts => Ts.own ts
  | .sub _ _ => []
where Ts.own : Ts → List Nat
  | .nil => []
  | .cons t ts => T.own t ++ Ts.own ts

/-! ### the check -/
def ownN (N : List Str) (own : List Nat) : List (Str × Nat) := own.map fun i => (N.getD i "", i)
def blkC (N : List Str) (sc scope : Scope) (own : List Nat) : Bool :=
  decide (scope.kind = .function) && scope.names.all (fun y => decide (scope.names.lookup y.1 = some y.2)) && own.all (fun i => decide (i < N.length)) &&
    scope.names.all (fun y => !decide (y.2 = .free) || decide (sc.names.lookup y.1 = some .cell) || decide (sc.names.lookup y.1 = some .free)) &&
    scope.names.all (fun y => !(decide (y.2 = .local) || decide (y.2 = .cell)) || (ownN N own).any (fun p => decide (p.1 = y.1)) || !N.any (fun z => decide (z = y.1)))
theorem blk_ok {N : List Str} {sc scope : Scope} {own : List Nat} (h : blkC N sc scope own = true) : BlkOk N sc scope (ownN N own) := by
  unfold blkC at h
  simp only [Bool.and_eq_true, decide_eq_true_eq, List.all_eq_true] at h
  obtain ⟨⟨⟨⟨h1, h2⟩, h3⟩, h4⟩, h5⟩ := h
  refine ⟨h1, h2, fun p hp => ?_, fun y hy e => ?_, fun y hy e => ?_⟩
  · obtain ⟨i, hi, rfl⟩ := List.mem_map.mp hp
    have := h3 i hi
    simp [this]
  · have q := h4 y hy
    simp only [Bool.or_eq_true, Bool.not_eq_true', decide_eq_false_iff_not, decide_eq_true_eq] at q
    rcases q with (q | q) | q
    · exact absurd e q
    · exact .inl q
    · exact .inr q
  · have q := h5 y hy
    simp only [Bool.or_eq_true, Bool.not_eq_true', decide_eq_true_eq, Bool.or_eq_false_iff, decide_eq_false_iff_not, List.any_eq_true, List.any_eq_false] at q
    rcases q with (q | q) | q
    · rcases e with e | e
      · exact absurd e q.1
      · exact absurd e q.2
    · obtain ⟨p, hp, e⟩ := q
      exact .inl (List.mem_map.mpr ⟨p, hp, e⟩)
    · exact .inr fun z => q _ z rfl
theorem ownN_ix (N : List Str) (own : List Nat) : (ownN N own).map (·.2) = own := by
  unfold ownN
  rw [List.map_map]
  exact List.map_id' own
def Lx.blk (L : Lx) (scope : Scope) : Lx := ⟨relS scope L.sc, fun x => scope.names.lookup x == some .cell, L.n, false⟩
/-- within a lambda -/
def Lx.lm (L : Lx) (scope : Scope) : Lx := ⟨scope, fun _ => false, L.n - 2, false⟩
/-- what may stand as a test -/
def tst : E → Bool
  | .var _ | .int _ | .bl _ | .non | .str _ | .glb _ | .bin _ _ _ | .idx _ _ | .slc _ _ _ | .call _ _ | .callk _ _ _ _ | .blt _ _ | .isi _ _ | .lc _ _ _ _ _ | .app _ _ | .att _ _ | .mth _ _ _ _ _ | .new _ _ _ | .cmp _ _ _ | .cmp2 _ _ _ _ _ => true
  | .not a => tst a
  | .and a b => tst a && tst b
  | .or a b => tst a && tst b
  | _ => false
def isBoolOp : Expr → Bool
  | .BoolOp .. => true
  | _ => false
def tyNames : List String := ["int", "bool", "str", "list", "tuple", "dict"]
/-- no call of no arguments: what an attribute stands on -/
def baseOk : Expr → Bool
  | .Name .. | .Subscript .. | .Attribute .. => true
  | _ => false
def kwNm (ks : List Keyword) (nm : List Str) : Bool := decide (ks.map (·.arg) = nm.map some)
mutual
def ckE (G : Gt) (N : List Str) (n : Nat) : E → Lx → Expr → Bool
  | .var i, L, x => match x with
    | .Name y _ => decide (N[i]? = some y) && visB L.sc y && nameOk y
    | _ => false
  | .int i, L, x => match x with
    | .Constant (.int j) _ _ => decide (i = j)
    | _ => false
  | .bl i, L, x => match x with
    | .Constant (.bool j) _ _ => decide (i = j)
    | _ => false
  | .non, L, x => match x with
    | .Constant .none _ _ => true
    | _ => false
  | .str i, L, x => match x with
    | .Constant (.str j) _ _ => decide (i = j)
    | _ => false
  | .glb k, L, x => match x with
    | .Name y _ => decide (G.glb[k]? = some y) && gloB L.sc y && nameOk y
    | _ => false
  | .bin o a b, L, x => match x with
    | .BinOp l p r _ => decide (p = boOf o) && ckE G N n a L l && ckE G N n b L r
    | _ => false
  | .neg a, L, x => match x with
    | .UnaryOp .USub l _ => ckE G N n a L l
    | _ => false
  | .not a, L, x => match x with
    | .UnaryOp .Not l _ => ckE G N n a L l
    | _ => false
  | .cmp o a b, L, x => match x with
    | .Compare l [p] [r] _ => decide (p = o) && plainX r && ckE G N n a L l && ckE G N n b L r
    | _ => false
  | .cmp2 o o2 a b c, L, x => match x with
    | .Compare l [p, p2] [r, r2] _ => decide (p = o) && decide (p2 = o2) && plainX r && plainX r2 && ckE G N n a L l && ckE G N n b L r && ckE G N n c L r2
    | _ => false
  | .and a b, L, x => match x with
    | .BoolOp .And (l :: r :: rest) pos => ckE G N n a L l && ckE G N n b L (match rest with | [] => r | _ => .BoolOp .And (r :: rest) pos)
    | _ => false
  | .or a b, L, x => match x with
    | .BoolOp .Or (l :: r :: rest) pos => ckE G N n a L l && ckE G N n b L (match rest with | [] => r | _ => .BoolOp .Or (r :: rest) pos)
    | _ => false
  | .ife c a b, L, x => match x with
    | .IfExp t l r _ => tst c && ckE G N n c L t && ckE G N n a L l && ckE G N n b L r
    | _ => false
  | .tup es, L, x => match x with
    | .Tuple xs _ _ => ckEs G N n es L xs
    | _ => false
  | .lst es, L, x => match x with
    | .List xs _ => ckEs G N n es L xs
    | _ => false
  | .dic0, L, x => match x with
    | .Dict [] [] _ => true
    | _ => false
  | .dicT, L, x => match x with
    | .Dict [] [] _ => true
    | _ => false
  | .dix a b, L, x => match x with
    | .Subscript l r _ => plainX r && ckE G N n a L l && ckE G N n b L r
    | _ => false
  | .dget a k d, L, x => match x with
    | .Call (.Attribute o m apos) [y, z] [] pos => decide (m = "get") && baseOk o && (apos.endLine == pos.line) && plainX y && plainX z && ckE G N n a L o && ckE G N n k L y && ckE G N n d L z
    | _ => false
  | .idx a b, L, x => match x with
    | .Subscript l r _ => plainX r && ckE G N n a L l && ckE G N n b L r
    | _ => false
  | .slc a lo hi, L, x => match x with
    | .Subscript l (.Slice u v none _) _ => ckE G N n a L l && ckO G N n lo L u && ckO G N n hi L v
    | _ => false
  | .call f es, L, x => match x with
    | .Call (.Name y _) xs [] _ => (match G.fns[f]? with | some (z, np, lv) => decide (z = y) && decide (lv < L.n) && decide (xs.length = np) | none => false) && gloB L.sc y && nameOk y && ckEs G N n es L xs
    | _ => false
  | .callk f es ks vs, L, x => match x with
    | .Call (.Name y _) xs kw _ => (match G.fns[f]? with | some (z, np, lv) => decide (z = y) && decide (lv < L.n) | none => false) && G.kws.any (fun q => decide (q.1 = f) && decide (q.2.1 = xs.length) && decide (q.2.2.2 = ks) && kwNm kw q.2.2.1 && ks.all (fun i => decide (i < q.2.2.1.length))) && gloB L.sc y && nameOk y && ckEs G N n es L xs && ckKs G N n vs L kw
    | _ => false
  | .blt b es, L, x => match x with
    | .Call (.Name y _) (l :: xs) [] _ => decide (y = bfN b) && (match b with | .gcd => G.gcd | .comb => false | _ => G.blt.any fun z => decide (z = y)) && gloB L.sc y && ckEs G N n es L (l :: xs)
    | _ => false
  | .isi a t, L, x => match x with
    | .Call (.Name y _) [l, .Name z _] [] _ => (match t with | .b m => tyNames.any (fun k => decide (k = m)) && decide (z = Str.ofString m) | .own _ => false) && decide (y = "isinstance") && gloB L.sc y && gloB L.sc z && G.blt.any (fun w => decide (w = y)) && G.blt.any (fun w => decide (w = z)) && plainX l && ckE G N n a L l
    | _ => false
  | .lc elt t it tt own, L, x => match x with
    | .ListComp y [⟨tg, iter, ifs, 0⟩] scope _ => blkC N L.sc scope own && plainX iter && (T.own t).all (fun i => decide (i ∈ own)) && ckI G N n it L tg iter && ckT G N n t (L.blk scope) tg && ckF G N n tt (L.blk scope) ifs && ckE G N n elt (L.blk scope) y
    | _ => false
  | .app l a, L, x => match x with
    | .Call (.Attribute o m apos) [y] [] pos => decide (m = "append") && baseOk o && (apos.endLine == pos.line) && plainX y && ckE G N n l L o && ckE G N n a L y
    | _ => false
  | .rsl a lo, L, x => match x with
    | .Subscript l (.Slice u none (some (.UnaryOp .USub (.Constant (.int 1) _ _) _)) _) _ => ckE G N n a L l && ckO G N n lo L u
    | _ => false
  | .told t e, L, x => match x with
    | .Call (.Name y _) [.Lambda { posonlyargs := [], args := [], vararg := none, kwonlyargs := [], kw_defaults := [], kwarg := none, defaults := [] } body scope _] [] _ =>
      L.lam && decide (2 ≤ L.n) && G.td.any (fun q => decide (q.1 = y) && decide (q.2 = t)) && gloB L.sc y && nameOk y && LamX.lamSB L.sc scope && ckE G N n e (L.lm scope) body
    | _ => false
  | .near kf x0 y0 z0 j lam, L, x => match x with
    | .Call (.Name nm _) [e0, e1, e2, .Lambda { posonlyargs := [], args := [⟨p, none, _⟩], vararg := none, kwonlyargs := [], kw_defaults := [], kwarg := none, defaults := [] } body scope _] [] _ =>
      L.lam && decide (2 ≤ L.n) && G.nr.any (fun q => decide (q.1 = nm) && decide (q.2 = kf)) && (match G.fns[kf]? with | some (w, np, lv) => decide (w ≠ ("" : Str)) && decide (lv + 1 < L.n) | none => false) && gloB L.sc nm && nameOk nm && plainX e0 && plainX e1 && plainX e2 && lamS1B L.sc scope p && decide (N[j]? = some p) && decide (p = "number") && ckE G N n x0 L e0 && ckE G N n y0 L e1 && ckE G N n z0 L e2 && ckE G N n lam (L.lm scope) body
    | _ => false
  | .new k f es, L, x => match x with
    | .Call (.Name y _) (l :: xs) [] _ => (match G.fns[f]? with | some (z, np, lv) => decide (z = ("" : Str)) && decide (lv + 1 < L.n) | none => false) && G.mks.any (fun q => decide (q.1 = f) && decide (q.2.1 = k) && decide (q.2.2 = y)) && gloB L.sc y && nameOk y && ckEs G N n es L (l :: xs)
    | _ => false
  | .bits a, L, x => match x with
    | .Call (.Attribute o m apos) [] [] pos => decide (m = "bit_length") && baseOk o && (apos.endLine == pos.line) && ckE G N n a L o
    | _ => false
  | .att a f, L, x => match x with
    | .Attribute o m _ => decide (m = f) && baseOk o && G.ats.any (fun w => decide (w = f)) && ckE G N n a L o
    | _ => false
  | .mth a k f m es, L, x => match x with
    | .Call (.Attribute o y apos) xs [] pos => decide (y = m) && baseOk o && (apos.endLine == pos.line) && decide (xs.length < 30) && (match G.fns[f]? with | some (z, np, lv) => decide (z = ("" : Str)) && decide (lv < L.n) | none => false) && G.mts.any (fun q => decide (q.1 = f) && decide (q.2.1 = k) && decide (q.2.2 = m)) && ckE G N n a L o && ckEs G N n es L xs
    | _ => false
def ckEs (G : Gt) (N : List Str) (n : Nat) : Es → Lx → List Expr → Bool
  | .nil, L, xs => match xs with
    | [] => true
    | _ => false
  | .cons e es, L, xs => match xs with
    | x :: xs => plainX x && ckE G N n e L x && ckEs G N n es L xs
    | [] => false
def ckKs (G : Gt) (N : List Str) (n : Nat) : Es → Lx → List Keyword → Bool
  | .nil, L, xs => match xs with
    | [] => true
    | _ => false
  | .cons e es, L, xs => match xs with
    | ⟨_, x, _⟩ :: xs => ckE G N n e L x && ckKs G N n es L xs
    | [] => false
def ckO (G : Gt) (N : List Str) (n : Nat) : Op → Lx → Option Expr → Bool
  | .no, L, x => match x with
    | none => true
    | _ => false
  | .so e, L, x => match x with
    | some y => ckE G N n e L y
    | none => false
/-- a comprehension's if -/
def ckF (G : Gt) (N : List Str) (n : Nat) : Op → Lx → List Expr → Bool
  | .no, L, x => match x with
    | [] => true
    | _ => false
  | .so e, L, x => match x with
    | [y] => tst e && ckE G N n e L y
    | _ => false
def ckI (G : Gt) (N : List Str) (n : Nat) : It → Lx → Expr → Expr → Bool
  | .pln e, L, tg, x => ckE G N n e L x
  | .rgv e, L, tg, x => ckE G N n e L x
  | .rng es, L, tg, x => match x with
    | .Call (.Name y _) (l :: xs) [] _ => decide (y = "range") && gloB L.sc y && G.blt.any (fun w => decide (w = y)) && ckEs G N n es L (l :: xs)
    | _ => false
  | .enm e, L, tg, x => match x, tg with
    | .Call (.Name y _) [l] [] _, .Tuple _ _ _ => decide (y = "enumerate") && gloB L.sc y && G.blt.any (fun w => decide (w = y)) && plainX l && ckE G N n e L l
    | _, _ => false
  | .zip a b, L, tg, x => match x, tg with
    | .Call (.Name y _) [l, r] [] _, .Tuple _ _ _ => decide (y = "zip") && gloB L.sc y && G.blt.any (fun w => decide (w = y)) && plainX l && plainX r && ckE G N n a L l && ckE G N n b L r
    | _, _ => false
  | .rev e, L, tg, x => match x with
    | .Call (.Name y _) [l] [] _ => decide (y = "reversed") && gloB L.sc y && G.blt.any (fun w => decide (w = y)) && plainX l && ckE G N n e L l
    | _ => false
  | .rrng es, L, tg, x => match x with
    | .Call (.Name y _) [.Call (.Name z _) (l :: xs) [] _] [] _ => decide (y = "reversed") && decide (z = "range") && gloB L.sc y && gloB L.sc z && G.blt.any (fun w => decide (w = y)) && G.blt.any (fun w => decide (w = z)) && ckEs G N n es L (l :: xs)
    | _ => false
def ckT (G : Gt) (N : List Str) (n : Nat) : T → Lx → Expr → Bool
  | .nm i, L, x => match x with
    | .Name y _ => decide (N[i]? = some y) && locB L.sc y && (L.fn y || decide (L.sc.names.lookup y = some .local))
    | _ => false
  | .tup ts, L, x => match x with
    | .Tuple xs _ _ => ckTs G N n ts L xs
    | _ => false
  | .sub a i, L, x => match x with
    | .Subscript l r _ => plainX r && ckE G N n a L l && ckE G N n i L r
    | _ => false
def ckTs (G : Gt) (N : List Str) (n : Nat) : Ts → Lx → List Expr → Bool
  | .nil, L, xs => match xs with
    | [] => true
    | _ => false
  | .cons t ts, L, xs => match xs with
    | x :: xs => ckT G N n t L x && ckTs G N n ts L xs
    | [] => false
end
end HS

/-! The check is good: expressions. -/
namespace HS
open PySem L2 PyProof.Rows

/-- what is known of a def that tells of a call -/
theorem room65 {k : Nat} {A : Around} (r : Room k A) : A.units + 65 < cLine := by have := r.un; omega
def TdAll (K : PySem.W.Frag) (mg : Str → Option Value) (cl : Md) (x : Str) (t : Tk) : Prop :=
  ∃ (st : Stmt) (g : Addr) (fd : FuncData) (Ng : List Str) (a : Str), L2.Fun K x x st g fd ∧ mg x = some (.ref g) ∧ (∀ (s : Shared) (us : List Value), us.length = 1 → BindsTo s fd ⟨us, []⟩ (([a] : List Str).zip us)) ∧ FnScope Ng [a] (defScope st) ∧
    match t with
    | .rep k1 k2 s1 s2 => TdRep K mg cl Ng (defScope st) a k1 k2 s1 s2 (defBody st)
    | .fnd _ _ => False
/-- what is known of a def that seeks between two whole numbers by a test -/
def NrAll (K : PySem.W.Frag) (mg : Str → Option Value) (fns : List (Str × Nat × Nat)) (x : Str) (kf : Nat) : Prop :=
  ∃ (st : Stmt) (g : Addr) (fd : FuncData) (Ng psn : List Str) (xr : Str) (lv np : Nat), L2.Fun K x x st g fd ∧ mg x = some (.ref g) ∧ (∀ (s : Shared) (us : List Value), us.length = 4 → BindsTo s fd ⟨us, []⟩ (psn.zip us)) ∧ psn.length = 4 ∧ FnScope Ng psn (defScope st) ∧ fns[kf]? = some (xr, np, lv) ∧ TdNear Ng (defScope st) xr (defBody st)
/-- what is known where a text is checked -/
structure Gd (X : Cx) (cl : Md) (W : WX) (G : Gt) (N : List Str) (n : Nat) (Δ : Nat → Fn) (gl : Nat → D) : Prop where
  calm : X.calm = true
  gua : X.A.guards = some []
  room : Room n X.A
  hN : X.N = N
  nd : N.Nodup
  kind : X.env.scope.kind = .function
  sys : SysOk X.base
  tk : Takes X W
  pas : PassesOwn (model X.prog X.w) X.A X.env X.xe
  fns : ∀ j, j ≤ n → ∀ k x np lv, G.fns[k]? = some (x, np, lv) → lv < j → x ≠ ("" : Str) → ∃ (ps : List Str) (f : Addr) (fd : FuncData), ps.length = np ∧ HS.Cal X cl j x ps (Δ k) f fd ∧ ∀ m nm idx, (k, m, nm, idx) ∈ G.kws → KwOk fd ps nm m idx
  cls : ∀ q ∈ G.cls, ClsK X.K X.mg cl q.1 q.2
  raz : ∀ k ∈ G.raz, RazK X.K cl k
  sub : SubK X.K cl
  td : ∀ q ∈ G.td, TdAll X.K X.mg cl q.1 q.2
  nr : ∀ q ∈ G.nr, NrAll X.K X.mg G.fns q.1 q.2
  glb : ∀ k x, G.glb[k]? = some x → ∃ v u, X.mg x = some u ∧ RelV v u ∧ ∀ H μ, Rl X.K cl H μ (gl k) v
  blt : ∀ x ∈ G.blt, X.mg x = none
  gcd : G.gcd = true → BfOk X.mg .gcd
  ik : InsK X.K cl G.ats
  mts : ∀ j, j ≤ n → ∀ q ∈ G.mts, ∀ np lv, G.fns[q.1]? = some (("" : Str), np, lv) → lv < j → CalM X cl j q.2.1 q.2.2 np (Δ q.1)
  mks : ∀ j, j ≤ n → ∀ q ∈ G.mks, ∀ np lv, G.fns[q.1]? = some (("" : Str), np, lv) → lv < j → CalN X cl j q.2.1 q.2.2 np (Δ q.1)
theorem takes_no {X : Cx} : Takes X NoW := fun _ _ x => by
  obtain ⟨_, _, _, _, _, _, _, _, _, _, _, _, _, _, _, _, z⟩ := x
  exact z.elim
theorem Gd.blk {X : Cx} {cl : Md} {W : WX} {G : Gt} {N : List Str} {n : Nat} {Δ : Nat → Fn} {gl : Nat → D} (g : Gd X cl W G N n Δ gl) (s : Shared) (H : Hp) (scope : Scope) (cenv : Env) (fp : List Addr) (hk : cenv.scope.kind = .function) : Gd (X.blk s H scope cenv fp) cl NoW G N n Δ gl :=
  ⟨g.calm, g.gua, g.room, g.hN, g.nd, hk, g.sys, takes_no, PassesOwn.never, fun j hj k x np lv h1 h2 h3 => by
    obtain ⟨ps, f, fd, l, c, kw⟩ := g.fns j hj k x np lv h1 h2 h3
    exact ⟨ps, f, fd, l, ⟨c.fn, c.mg, c.kp, c.bd⟩, kw⟩, g.cls, g.raz, g.sub, g.td, g.nr, g.glb, g.blt, g.gcd, g.ik, fun j hj q hq np lv h1 h2 => ⟨(g.mts j hj q hq np lv h1 h2).ex⟩, fun j hj q hq np lv h1 h2 => ⟨(g.mks j hj q hq np lv h1 h2).ex⟩⟩
theorem Gd.lam {X : Cx} {cl : Md} {W : WX} {G : Gt} {N : List Str} {n k : Nat} {Δ : Nat → Fn} {gl : Nat → D} (g : Gd X cl W G N n Δ gl) (hkn : k ≤ n) {scope : Scope} (L : LamX.LamS X.env.scope scope) (A : Around) (outer : List Env) (s : Shared) (H : Hp) (E : XK) (f c' : Addr) (hg : A.guards = some []) (hr : Room k (A.deeper (LamX.lamEnv X scope s.heap.objs.size f c'))) :
    Gd (LamX.lamCx X A outer s H E scope f c') cl (fun c d _ H' => E c d H') G N k Δ gl :=
  ⟨rfl, hg, hr, g.hN, g.nd, L.kind, g.sys, takes_of rfl rfl rfl rfl, passes_of rfl, fun j hj k x np lv h1 h2 h3 => by
    obtain ⟨ps, f, fd, l, c, kw⟩ := g.fns j (Nat.le_trans hj hkn) k x np lv h1 h2 h3
    exact ⟨ps, f, fd, l, ⟨c.fn, c.mg, c.kp, c.bd⟩, kw⟩, g.cls, g.raz, g.sub, g.td, g.nr, g.glb, g.blt, g.gcd, g.ik, fun j hj q hq np lv h1 h2 => ⟨(g.mts j (Nat.le_trans hj hkn) q hq np lv h1 h2).ex⟩, fun j hj q hq np lv h1 h2 => ⟨(g.mks j (Nat.le_trans hj hkn) q hq np lv h1 h2).ex⟩⟩

theorem Gd.lam1 {X : Cx} {cl : Md} {W : WX} {G : Gt} {N : List Str} {n k : Nat} {Δ : Nat → Fn} {gl : Nat → D} (g : Gd X cl W G N n Δ gl) (hkn : k ≤ n) {scope : Scope} (hk : scope.kind = .function) (A : Around) (outer : List Env) (s : Shared) (H : Hp) (E : XK) (f c' : Addr) (hg : A.guards = some []) (hr : Room k (A.deeper (LamX.lamEnv X scope s.heap.objs.size f c'))) :
    Gd (LamX.lamCx X A outer s H E scope f c') cl (fun c d _ H' => E c d H') G N k Δ gl :=
  ⟨rfl, hg, hr, g.hN, g.nd, hk, g.sys, takes_of rfl rfl rfl rfl, passes_of rfl, fun j hj k x np lv h1 h2 h3 => by
    obtain ⟨ps, f, fd, l, c, kw⟩ := g.fns j (Nat.le_trans hj hkn) k x np lv h1 h2 h3
    exact ⟨ps, f, fd, l, ⟨c.fn, c.mg, c.kp, c.bd⟩, kw⟩, g.cls, g.raz, g.sub, g.td, g.nr, g.glb, g.blt, g.gcd, g.ik, fun j hj q hq np lv h1 h2 => ⟨(g.mts j (Nat.le_trans hj hkn) q hq np lv h1 h2).ex⟩, fun j hj q hq np lv h1 h2 => ⟨(g.mks j (Nat.le_trans hj hkn) q hq np lv h1 h2).ex⟩⟩


/-- an expression's three readings -/
structure Ok3 (X : Cx) (cl : Md) (W : WX) (e : E) (x : Expr) (m : En → Hh → R D) : Prop where
  pe : PE X x (tE X.K cl W m)
  pt : tst e = true → PT X x (tT X.K cl W fun ρ h => (m ρ h).bind asBl)
  pw : tst e = true → isBoolOp x = true → PW X x (tT X.K cl W fun ρ h => (m ρ h).bind asBl)
theorem plainB_no {x : Expr} (h : plainB x = true) : isBoolOp x = false := by cases x <;> first | rfl | (simp [plainB] at h)
section
variable {X : Cx} {cl : Md} {W : WX} {e : E} {x : Expr} {m : En → Hh → R D}
theorem Ok3.b (hp : plainB x = true) (h : PE X x (tE X.K cl W m)) : Ok3 X cl W e x m := ⟨h, fun _ => sValT hp h, fun _ z => by rw [plainB_no hp] at z; cases z⟩
theorem Ok3.n (ht : tst e = false) (h : PE X x (tE X.K cl W m)) : Ok3 X cl W e x m := ⟨h, (fun z => by rw [ht] at z; cases z), (fun z => by rw [ht] at z; cases z)⟩
theorem Ok3.t (hp : isBoolOp x = false) (h : PE X x (tE X.K cl W m)) (t : tst e = true → PT X x (tT X.K cl W fun ρ h => (m ρ h).bind asBl)) : Ok3 X cl W e x m := ⟨h, t, fun _ z => by rw [hp] at z; cases z⟩
end
theorem nameOk_ok {x : Str} (h : nameOk x = true) : (x == ("__debug__" : Str)) = false ∧ (x == ("__classdict__" : Str)) = false ∧ x ≠ "__name__" := by
  unfold nameOk at h
  simp only [Bool.and_eq_true, Bool.not_eq_true', decide_eq_false_iff_not] at h
  exact ⟨h.1.1.1, h.1.1.2, h.1.2⟩
theorem nameOk_ne {x : Str} (h : nameOk x = true) : x ≠ ("" : Str) := by
  unfold nameOk at h
  simp only [Bool.and_eq_true, Bool.not_eq_true', decide_eq_false_iff_not] at h
  exact h.2
theorem gloB_ok {X : Cx} {x : Str} {sc : Scope} (hs : X.env.scope = sc) (h : gloB sc x = true) : Gl X x := by
  have q := of_decide_eq_true h
  show X.env.scope.names.lookup x = _
  rw [hs]; exact q
theorem any_mem {l : List Str} {x : Str} (h : (l.any fun w => decide (w = x)) = true) : x ∈ l := by
  rw [List.any_eq_true] at h
  obtain ⟨w, hw, e⟩ := h
  rw [← of_decide_eq_true e]; exact hw
/-- how many -/
def Es.len : Es → Nat
  | .nil => 0
  | .cons _ es => Es.len es + 1
theorem evs_len {Δ : Nat → Fn} {gl : Nat → D} : ∀ (es : Es) (ρ : En) (h : Hh) (xs : List D) (h' : Hh), evs Δ gl es ρ h = .ok xs h' → xs.length = es.len
  | .nil, ρ, h, xs, h', e => by
    simp only [evs] at e
    cases e; rfl
  | .cons e es, ρ, h, xs, h', q => by
    simp only [evs] at q
    obtain ⟨a, h1, e1, q⟩ := R.bind_inv q
    obtain ⟨b, h2, e2, q⟩ := R.bind_inv q
    cases q
    simp [Es.len, evs_len es _ _ _ _ e2]
def Ts.len : Ts → Nat
  | .nil => 0
  | .cons _ es => Ts.len es + 1
theorem asns_len {Δ : Nat → Fn} {gl : Nat → D} : ∀ (ts : Ts) (xs : List D) (ρ : En) (h : Hh) (ρ' : En) (h' : Hh), asns Δ gl ts xs ρ h = .ok ρ' h' → xs.length = ts.len
  | .nil, xs, ρ, h, ρ', h', e => by
    simp only [asns] at e
    split at e
    · rfl
    · cases e
  | .cons t ts, xs, ρ, h, ρ', h', q => by
    simp only [asns] at q
    split at q
    · obtain ⟨a, h1, e1, q⟩ := R.bind_inv q
      simp [Ts.len, asns_len ts _ _ _ _ _ q]
    · cases q
section
variable {G : Gt} {N : List Str} {n : Nat}
theorem ckEs_len : ∀ (es : Es) (L : Lx) (xs : List Expr), ckEs G N n es L xs = true → xs.length = es.len ∧ xs.all plainX = true
  | .nil, L, xs, h => by
    simp only [ckEs] at h
    split at h
    · exact ⟨rfl, rfl⟩
    · cases h
  | .cons e es, L, xs, h => by
    simp only [ckEs] at h
    split at h
    · simp only [Bool.and_eq_true] at h
      obtain ⟨h1, h2⟩ := ckEs_len es L _ h.2
      exact ⟨by simp [Es.len, h1], by simp only [List.all_cons, h.1.1, h2, Bool.and_true]⟩
    · cases h
theorem ckKs_len : ∀ (es : Es) (L : Lx) (xs : List Keyword), ckKs G N n es L xs = true → xs.length = es.len
  | .nil, L, xs, h => by
    simp only [ckKs] at h
    split at h
    · rfl
    · cases h
  | .cons e es, L, xs, h => by
    simp only [ckKs] at h
    split at h
    · simp only [Bool.and_eq_true] at h
      simp [Es.len, ckKs_len es L _ h.2]
    · cases h
theorem ckT_star (t : T) (L : Lx) (x : Expr) (xs : List Expr) (env : Env) (h : ckT G N n t L x = true) : assignEach (x :: xs) env = (false, assign x env) :: assignEach xs env := by
  cases t <;> (simp only [ckT] at h; split at h <;> first | rfl | cases h)
theorem ckTs_len : ∀ (ts : Ts) (L : Lx) (xs : List Expr) (env : Env), ckTs G N n ts L xs = true → (assignEach xs env).length = ts.len ∧ (assignEach xs env).findIdx? (·.1) = none
  | .nil, L, xs, env, h => by
    simp only [ckTs] at h
    split at h
    · exact ⟨rfl, rfl⟩
    · cases h
  | .cons e es, L, xs, env, h => by
    simp only [ckTs] at h
    split at h
    · simp only [Bool.and_eq_true] at h
      obtain ⟨h1, h2⟩ := ckTs_len es L _ env h.2
      rw [ckT_star _ _ _ _ env h.1]
      refine ⟨by simp [Ts.len, h1], ?_⟩
      rw [List.findIdx?_cons]
      simp [h2]
    · cases h
theorem bootTy {m : String} (h : tyNames.any (fun k => decide (k = m)) = true) : bootBuiltins (Str.ofString m) = some (.type m) ∧ Str.ofString m ≠ "__name__" ∧ (Str.ofString m == ("__debug__" : Str)) = false := by
  rw [List.any_eq_true] at h
  obtain ⟨w, hw, e⟩ := h
  have e := of_decide_eq_true e
  subst e
  simp only [tyNames, List.mem_cons, List.not_mem_nil, or_false] at hw
  rcases hw with rfl | rfl | rfl | rfl | rfl | rfl <;> exact ⟨by decide +kernel, by decide +kernel, by decide +kernel⟩
end
theorem base_plain {o : Expr} {m : Str} {env : Env} {w : Sem Value} (h : baseOk o = true) : attributeBase o m env w = w := by
  cases o <;> first | rfl | (simp [baseOk] at h)
end HS

/-! The check is good: expressions, the proof. -/
namespace HS
open PySem L2 PyProof.Rows
section
variable {G : Gt} {N : List Str} {n : Nat} {cl : Md} {Δ : Nat → Fn} {gl : Nat → D}
mutual
theorem okE : ∀ (e : E) (L : Lx) (x : Expr), ckE G N n e L x = true → ∀ (X : Cx) (W : WX), Gd X cl W G N L.n Δ gl → X.env.scope = L.sc → X.fn = L.fn → (L.lam = true → LamOk X cl) → Ok3 X cl W e x (ev Δ gl e)
  | .var i, L, x, h, X, W, gd, hs, hf, hm => by
    simp only [ckE] at h
    split at h
    · simp only [Bool.and_eq_true, decide_eq_true_eq] at h
      obtain ⟨⟨h1, h2⟩, h3⟩ := h
      obtain ⟨n1, n2, _⟩ := nameOk_ok h3
      refine .b rfl ?_
      have q := sVar (cl := cl) (W := W) (i := i) (pos := ‹_›) (by rw [gd.hN]; exact h1) (by rw [hs]; exact visB_ok h2) n1 n2
      exact q
    · cases h
  | .int i, L, x, h, X, W, gd, hs, hf, hm => by
    simp only [ckE] at h
    split at h
    · have e := of_decide_eq_true h
      subst e
      exact .b rfl (sVal pe_int fun _ _ => Rl.int_iff.mpr rfl)
    · cases h
  | .bl i, L, x, h, X, W, gd, hs, hf, hm => by
    simp only [ckE] at h
    split at h
    · have e := of_decide_eq_true h
      subst e
      exact .b rfl (sVal pe_bl fun _ _ => Rl.bl_iff.mpr rfl)
    · cases h
  | .non, L, x, h, X, W, gd, hs, hf, hm => by
    simp only [ckE] at h
    split at h
    · exact .b rfl (sVal pe_non fun _ _ => Rl.non_iff.mpr rfl)
    · cases h
  | .str i, L, x, h, X, W, gd, hs, hf, hm => by
    simp only [ckE] at h
    split at h
    · have e := of_decide_eq_true h
      subst e
      exact .b rfl (sVal pe_str fun _ _ => Rl.str_iff.mpr rfl)
    · cases h
  | .glb k, L, x, h, X, W, gd, hs, hf, hm => by
    simp only [ckE] at h
    split at h
    · simp only [Bool.and_eq_true, decide_eq_true_eq] at h
      obtain ⟨⟨h1, h2⟩, h3⟩ := h
      obtain ⟨n1, n2, _⟩ := nameOk_ok h3
      obtain ⟨v, u, hm, r, rl⟩ := gd.glb _ _ h1
      exact .b rfl (sVal (pe_glob (gloB_ok hs h2) hm r n1) rl)
    · cases h
  | .bin o a b, L, x, h, X, W, gd, hs, hf, hm => by
    simp only [ckE] at h
    split at h
    · simp only [Bool.and_eq_true, decide_eq_true_eq] at h
      obtain ⟨⟨h1, h2⟩, h3⟩ := h
      subst h1
      exact .b rfl (sBin (okE a L _ h2 X W gd hs hf hm).pe (okE b L _ h3 X W gd hs hf hm).pe)
    · cases h
  | .neg a, L, x, h, X, W, gd, hs, hf, hm => by
    simp only [ckE] at h
    split at h
    · exact .n rfl (sNeg (okE a L _ h X W gd hs hf hm).pe)
    · cases h
  | .not a, L, x, h, X, W, gd, hs, hf, hm => by
    simp only [ckE] at h
    split at h
    · have q := okE a L _ h X W gd hs hf hm
      exact .t rfl (sNot q.pe) fun z => sNotT (q.pt z)
    · cases h
  | .cmp o a b, L, x, h, X, W, gd, hs, hf, hm => by
    simp only [ckE] at h
    split at h
    · simp only [Bool.and_eq_true, decide_eq_true_eq] at h
      obtain ⟨⟨⟨h1, h2⟩, h3⟩, h4⟩ := h
      subst h1
      have qa := (okE a L _ h3 X W gd hs hf hm).pe
      have qb := (okE b L _ h4 X W gd hs hf hm).pe
      exact .t rfl (sCmp (room65 gd.room) gd.sys h2 qa qb) fun _ => sCmpT (room65 gd.room) gd.sys h2 qa qb
    · cases h
  | .cmp2 o o2 a b c, L, x, h, X, W, gd, hs, hf, hm => by
    simp only [ckE] at h
    split at h
    · simp only [Bool.and_eq_true, decide_eq_true_eq] at h
      obtain ⟨⟨⟨⟨⟨⟨h1, h2⟩, h3⟩, h4⟩, h5⟩, h6⟩, h7⟩ := h
      subst h1 h2
      have qa := (okE a L _ h5 X W gd hs hf hm).pe
      have qb := (okE b L _ h6 X W gd hs hf hm).pe
      have qc := (okE c L _ h7 X W gd hs hf hm).pe
      exact .t rfl (sCmp2 (room65 gd.room) gd.sys h3 h4 qa qb qc) fun _ => sCmp2T (room65 gd.room) gd.sys h3 h4 qa qb qc
    · cases h
  | .and a b, L, x, h, X, W, gd, hs, hf, hm => by
    simp only [ckE] at h
    split at h
    · rename_i l r rest pos
      simp only [Bool.and_eq_true] at h
      obtain ⟨h1, h2⟩ := h
      have qa := okE a L _ h1 X W gd hs hf hm
      have qb := okE b L _ h2 X W gd hs hf hm
      have pb : PE X (.BoolOp .And (r :: rest) pos) (tE X.K cl W (ev Δ gl b)) := by
        cases rest with
        | nil => exact pe_one qb.pe
        | cons _ _ => exact qb.pe
      have wb : tst b = true → PW X (.BoolOp .And (r :: rest) pos) (tT X.K cl W fun ρ h => (ev Δ gl b ρ h).bind asBl) := fun z => by
        cases rest with
        | nil => exact pw_and1 (qb.pt z)
        | cons _ _ => exact qb.pw z rfl
      have key : tst (.and a b) = true → PW X (.BoolOp .And (l :: r :: rest) pos) (tT X.K cl W fun ρ h => (ev Δ gl (.and a b) ρ h).bind asBl) := fun z => by
        simp only [tst, Bool.and_eq_true] at z
        exact sAndT (qa.pt z.1) (wb z.2)
      exact ⟨sAnd qa.pe pb, fun z => (key z).pt, fun z _ => key z⟩
    · cases h
  | .or a b, L, x, h, X, W, gd, hs, hf, hm => by
    simp only [ckE] at h
    split at h
    · rename_i l r rest pos
      simp only [Bool.and_eq_true] at h
      obtain ⟨h1, h2⟩ := h
      have qa := okE a L _ h1 X W gd hs hf hm
      have qb := okE b L _ h2 X W gd hs hf hm
      have pb : PE X (.BoolOp .Or (r :: rest) pos) (tE X.K cl W (ev Δ gl b)) := by
        cases rest with
        | nil => exact pe_one qb.pe
        | cons _ _ => exact qb.pe
      have wb : tst b = true → PW X (.BoolOp .Or (r :: rest) pos) (tT X.K cl W fun ρ h => (ev Δ gl b ρ h).bind asBl) := fun z => by
        cases rest with
        | nil => exact pw_or1 (qb.pt z)
        | cons _ _ => exact qb.pw z rfl
      have key : tst (.or a b) = true → PW X (.BoolOp .Or (l :: r :: rest) pos) (tT X.K cl W fun ρ h => (ev Δ gl (.or a b) ρ h).bind asBl) := fun z => by
        simp only [tst, Bool.and_eq_true] at z
        exact sOrT (qa.pt z.1) (wb z.2)
      exact ⟨sOr qa.pe pb, fun z => (key z).pt, fun z _ => key z⟩
    · cases h
  | .ife c a b, L, x, h, X, W, gd, hs, hf, hm => by
    simp only [ckE] at h
    split at h
    · simp only [Bool.and_eq_true] at h
      obtain ⟨⟨⟨h1, h2⟩, h3⟩, h4⟩ := h
      exact .n rfl (sIfe ((okE c L _ h2 X W gd hs hf hm).pt h1) (okE a L _ h3 X W gd hs hf hm).pe (okE b L _ h4 X W gd hs hf hm).pe)
    · cases h
  | .tup es, L, x, h, X, W, gd, hs, hf, hm => by
    simp only [ckE] at h
    split at h
    · exact .n rfl (sTup (okEs es L _ h X W gd hs hf hm))
    · cases h
  | .lst es, L, x, h, X, W, gd, hs, hf, hm => by
    simp only [ckE] at h
    split at h
    · exact .n rfl (sLst (okEs es L _ h X W gd hs hf hm))
    · cases h
  | .dic0, L, x, h, X, W, gd, hs, hf, hm => by
    simp only [ckE] at h
    split at h
    · exact .n rfl sDic
    · cases h
  | .idx a b, L, x, h, X, W, gd, hs, hf, hm => by
    simp only [ckE] at h
    split at h
    · simp only [Bool.and_eq_true] at h
      obtain ⟨⟨h1, h2⟩, h3⟩ := h
      exact .b rfl (sIdx h1 (okE a L _ h2 X W gd hs hf hm).pe (okE b L _ h3 X W gd hs hf hm).pe)
    · cases h
  | .slc a lo hi, L, x, h, X, W, gd, hs, hf, hm => by
    simp only [ckE] at h
    split at h
    · simp only [Bool.and_eq_true] at h
      obtain ⟨⟨h1, h2⟩, h3⟩ := h
      exact .b rfl (sSlc (okE a L _ h1 X W gd hs hf hm).pe (okO lo L _ h2 X W gd hs hf hm) (okO hi L _ h3 X W gd hs hf hm))
    · cases h
  | .call f es, L, x, h, X, W, gd, hs, hf, hm => by
    simp only [ckE] at h
    split at h
    · rename_i y p xs pos
      simp only [Bool.and_eq_true] at h
      obtain ⟨⟨⟨h1, h2⟩, h3⟩, h4⟩ := h
      split at h1
      · rename_i z np lv hz
        simp only [Bool.and_eq_true, decide_eq_true_eq] at h1
        obtain ⟨⟨e1, e2⟩, e3⟩ := h1
        subst e1
        obtain ⟨ps, ff, fd, _, c, _⟩ := gd.fns _ (Nat.le_refl _) _ _ _ _ hz e2 (nameOk_ne h3)
        obtain ⟨n1, n2, _⟩ := nameOk_ok h3
        have qs := okEs es L _ h4 X W gd hs hf hm
        have ql := ckEs_len es L _ h4
        refine .b rfl ?_
        cases xs with
        | nil =>
          cases es with
          | nil => exact sCall0 c gd.gua gd.room gd.tk (gloB_ok hs h2) n1
          | cons _ _ => exact absurd ql.1 (by simp [Es.len])
        | cons y ys => exact sCall c gd.gua gd.room gd.tk (gloB_ok hs h2) n1 ql.2 qs
      · cases h1
    · cases h
  | .callk f es ks vs, L, x, h, X, W, gd, hs, hf, hm => by
    simp only [ckE] at h
    split at h
    · rename_i y p xs kw pos
      simp only [Bool.and_eq_true] at h
      obtain ⟨⟨⟨⟨⟨h1, hk⟩, h2⟩, h3⟩, h4⟩, h5⟩ := h
      split at h1
      · rename_i z np lv hz
        simp only [Bool.and_eq_true, decide_eq_true_eq] at h1
        obtain ⟨e1, e2⟩ := h1
        subst e1
        obtain ⟨ps, ff, fd, _, c, hkw⟩ := gd.fns _ (Nat.le_refl _) _ _ _ _ hz e2 (nameOk_ne h3)
        obtain ⟨n1, n2, _⟩ := nameOk_ok h3
        rw [List.any_eq_true] at hk
        obtain ⟨⟨f', m, nm, idx⟩, hq, hk⟩ := hk
        simp only [Bool.and_eq_true, decide_eq_true_eq] at hk
        obtain ⟨⟨⟨⟨k1, k2⟩, k3⟩, k4⟩, k5⟩ := hk
        subst k1 k3
        have kw1 := hkw _ _ _ hq
        have k4 := of_decide_eq_true k4
        have ql := ckEs_len es L _ h4
        refine .b rfl (sCallk c kw1 gd.gua gd.room gd.tk (gloB_ok hs h2) n1 ql.2 k2.symm k4 k5 (fun z => ?_) (fun ρ h xs' h' q => by rw [evs_len _ _ _ _ _ q, ql.1]) (fun ρ h xs' h' q => by rw [evs_len _ _ _ _ _ q, ckKs_len _ _ _ h5]) (okEs es L _ h4 X W gd hs hf hm) (okKs vs L _ h5 X W gd hs hf hm))
        subst z
        cases es with
        | nil => rfl
        | cons _ _ => exact absurd ql.1 (by simp [Es.len])
      · cases h1
    · cases h
  | .blt b es, L, x, h, X, W, gd, hs, hf, hm => by
    simp only [ckE] at h
    split at h
    · rename_i y p l xs pos
      simp only [Bool.and_eq_true, decide_eq_true_eq] at h
      obtain ⟨⟨⟨h1, h2⟩, h3⟩, h4⟩ := h
      subst h1
      have ok : BfOk X.mg b := by
        cases b <;> first | exact gd.gcd h2 | (cases h2; done) | exact gd.blt _ (any_mem h2)
      exact .b rfl (sBlt gd.calm gd.gua (room65 gd.room) gd.sys ok (gloB_ok hs h3) (ckEs_len es L _ h4).2 (okEs es L _ h4 X W gd hs hf hm))
    · cases h
  | .isi a t, L, x, h, X, W, gd, hs, hf, hm => by
    simp only [ckE] at h
    split at h
    · simp only [Bool.and_eq_true, decide_eq_true_eq] at h
      obtain ⟨⟨⟨⟨⟨⟨⟨ht, h1⟩, h2⟩, h3⟩, h4⟩, h5⟩, h6⟩, h7⟩ := h
      subst h1
      cases t with
      | own k => cases ht
      | b m =>
        simp only [Bool.and_eq_true, decide_eq_true_eq] at ht
        obtain ⟨t1, t2⟩ := ht
        subst t2
        obtain ⟨b1, b2, b3⟩ := bootTy t1
        exact .b rfl (sIsi (gloB_ok hs h2) (gd.blt _ (any_mem h4)) (gloB_ok hs h3) (gd.blt _ (any_mem h5)) b1 b2 b3 h6 (okE a L _ h7 X W gd hs hf hm).pe)
    · cases h
  | .lc elt t it tt own, L, x, h, X, W, gd, hs, hf, hm => by
    simp only [ckE] at h
    split at h
    · rename_i y tg iter ifs scope pos
      simp only [Bool.and_eq_true] at h
      obtain ⟨⟨⟨⟨⟨⟨h1, h2⟩, h3⟩, h4⟩, h5⟩, h6⟩, h7⟩ := h
      have bk := blk_ok h1
      have ek : (relS scope X.env.scope) = (L.blk scope).sc := by rw [hs]; rfl
      have hv : ∀ j ∈ T.own t, j ∈ (ownN N own).map (·.2) := fun j hj => by
        rw [ownN_ix]
        rw [List.all_eq_true] at h3
        exact of_decide_eq_true (h3 j hj)
      refine .b rfl ?_
      have q := lcE (K := X.K) (cl := cl) (W := W) hv (pe_lc (pos := pos) gd.calm (by rw [gd.hN]; exact gd.nd) (okI it L _ _ h4 X W gd hs hf hm) (by rw [gd.hN, hs]; exact bk)
        (fun s H C cs fp => okT t _ _ h5 _ NoW (gd.blk s H scope (compEnvC scope cs C X.env) fp bk.kind) ek rfl (fun z => nomatch z))
        (fun s H C cs fp => okF tt _ _ h6 _ NoW (gd.blk s H scope (compEnvC scope cs C X.env) fp bk.kind) ek rfl (fun z => nomatch z))
        (fun s H C cs fp => (okE elt _ _ h7 _ NoW (gd.blk s H scope (compEnvC scope cs C X.env) fp bk.kind) ek rfl (fun z => nomatch z)).pe) fun x => fold_plain h2)
      rw [ownN_ix] at q
      exact q
    · cases h
  | .dicT, L, x, h, X, W, gd, hs, hf, hm => by
    simp only [ckE] at h
    split at h
    · exact .n rfl sDicT
    · cases h
  | .dix a b, L, x, h, X, W, gd, hs, hf, hm => by
    simp only [ckE] at h
    split at h
    · simp only [Bool.and_eq_true] at h
      exact .n rfl (sDix (room65 gd.room) h.1.1 (okE a L _ h.1.2 X W gd hs hf hm).pe (okE b L _ h.2 X W gd hs hf hm).pe)
    · cases h
  | .dget a k d, L, x, h, X, W, gd, hs, hf, hm => by
    simp only [ckE] at h
    split at h
    · simp only [Bool.and_eq_true, decide_eq_true_eq] at h
      obtain ⟨⟨⟨⟨⟨⟨⟨h1, h2⟩, h3⟩, h4⟩, h5⟩, h6⟩, h7⟩, h8⟩ := h
      subst h1
      exact .n rfl (sDget (room65 gd.room) (base_plain h2) h3 h4 h5 (okE a L _ h6 X W gd hs hf hm).pe (okE k L _ h7 X W gd hs hf hm).pe (okE d L _ h8 X W gd hs hf hm).pe)
    · cases h
  | .app l a, L, x, h, X, W, gd, hs, hf, hm => by
    simp only [ckE] at h
    split at h
    · simp only [Bool.and_eq_true, decide_eq_true_eq] at h
      obtain ⟨⟨⟨⟨⟨h1, h2⟩, h3⟩, h4⟩, h5⟩, h6⟩ := h
      subst h1
      exact .b rfl (sApp (base_plain h2) h3 h4 (okE l L _ h5 X W gd hs hf hm).pe (okE a L _ h6 X W gd hs hf hm).pe)
    · cases h
  | .rsl a lo, L, x, h, X, W, gd, hs, hf, hm => by
    simp only [ckE] at h
    split at h
    · simp only [Bool.and_eq_true] at h
      exact .n rfl (sRsl (okE a L _ h.1 X W gd hs hf hm).pe (okO lo L _ h.2 X W gd hs hf hm))
    · cases h
  | .told t e, L, x, h, X, W, gd, hs, hf, hm => by
    simp only [ckE] at h
    split at h
    · rename_i y p body scope lpos pos
      simp only [Bool.and_eq_true, decide_eq_true_eq] at h
      obtain ⟨⟨⟨⟨⟨⟨h1, h2⟩, h3⟩, h4⟩, h5⟩, h6⟩, h7⟩ := h
      rw [List.any_eq_true] at h3
      obtain ⟨⟨z, t'⟩, hq, h3⟩ := h3
      simp only [Bool.and_eq_true, decide_eq_true_eq] at h3
      obtain ⟨e1, e2⟩ := h3
      subst e1 e2
      obtain ⟨st, g, fd, Ng, a, F, mgf, bd, S, T⟩ := gd.td _ hq
      obtain ⟨k, hk⟩ : ∃ k, L.n = k + 2 := ⟨L.n - 2, by omega⟩
      have hr : Room (k + 2) X.A := hk ▸ gd.room
      have LS : LamX.LamS X.env.scope scope := LamX.lamS_by (by rw [hs]; exact h6)
      cases t' with
      | fnd _ _ => exact T.elim
      | rep k1 k2 s1 s2 =>
        refine .n rfl (sTold F mgf bd S T gd.sub gd.sys (hm h1) gd.gua hr (gloB_ok hs h4) (nameOk_ok h5).1 LS fun A outer s H E f c' hga hr2 => ?_)
        have ek : L.n - 2 = k := by omega
        exact (okE e (L.lm scope) _ h7 _ _ (gd.lam (k := L.n - 2) (Nat.sub_le _ _) LS A outer s H E f c' hga (by rw [ek]; exact hr2)) rfl rfl (fun z => nomatch z)).pe
    · cases h
  | .near kf x0 y0 z0 j lam, L, x, h, X, W, gd, hs, hf, hm => by
    simp only [ckE] at h
    split at h
    · rename_i nm p0 e0 e1 e2 p ap body scope lpos pos
      simp only [Bool.and_eq_true, decide_eq_true_eq] at h
      obtain ⟨⟨⟨⟨⟨⟨⟨⟨⟨⟨⟨⟨⟨⟨⟨h1, h2⟩, h3⟩, h4⟩, h5⟩, h6⟩, h7⟩, h8⟩, h9⟩, h10⟩, h11⟩, h12⟩, h13⟩, h14⟩, h15⟩, h16⟩ := h
      rw [List.any_eq_true] at h3
      obtain ⟨⟨z, kf'⟩, hq, h3⟩ := h3
      simp only [Bool.and_eq_true, decide_eq_true_eq] at h3
      obtain ⟨q1, q2⟩ := h3
      subst q1 q2
      obtain ⟨st, g, fd, Ng, psn, xr, lv, np, F, mgf, bd, hps, S, hfn, T⟩ := gd.nr _ hq
      dsimp only at hfn
      rw [hfn] at h4
      simp only [Bool.and_eq_true, decide_eq_true_eq] at h4
      obtain ⟨hx0, hlv⟩ := h4
      obtain ⟨k, hk⟩ : ∃ k, L.n = k + 2 := ⟨L.n - 2, by omega⟩
      have hr : Room (k + 2) X.A := hk ▸ gd.room
      have LS : LamS1 X.env.scope scope p := lamS1_by (by rw [hs]; exact h10)
      obtain ⟨ps, f, fd2, _, c, _⟩ := gd.fns (k + 1) (by omega) kf' xr np lv hfn (by omega) hx0
      have ek : L.n - 2 = k := by omega
      subst h12
      exact .n rfl (sNear (cl := cl) F mgf bd hps S T gd.sys (hm h1) gd.gua hr (gloB_ok hs h5) (nameOk_ok h6).1 LS bind_number (by rw [gd.hN]; exact gd.nd) (by rw [gd.hN]; exact h11) c h7 h8 h9
        (okE x0 L _ h13 X W gd hs hf hm).pe (okE y0 L _ h14 X W gd hs hf hm).pe (okE z0 L _ h15 X W gd hs hf hm).pe fun A outer s H f c' hga hr2 =>
        (okE lam (L.lm scope) _ h16 _ _ (gd.lam1 (k := L.n - 2) (Nat.sub_le _ _) LS.kind A outer s H (fun _ _ _ => False) f c' hga (by rw [ek]; exact hr2)) rfl rfl (fun z => nomatch z)).pe)
    · cases h
  | .new k f es, L, x, h, X, W, gd, hs, hf, hm => by
    simp only [ckE] at h
    split at h
    · rename_i y p l xs pos
      simp only [Bool.and_eq_true] at h
      obtain ⟨⟨⟨⟨h1, h2⟩, h3⟩, h4⟩, h5⟩ := h
      split at h1
      · rename_i z np lv hz
        simp only [Bool.and_eq_true, decide_eq_true_eq] at h1
        obtain ⟨e1, e2⟩ := h1
        subst e1
        rw [List.any_eq_true] at h2
        obtain ⟨⟨f', k', y'⟩, hq, h2⟩ := h2
        simp only [Bool.and_eq_true, decide_eq_true_eq] at h2
        obtain ⟨⟨q1, q2⟩, q3⟩ := h2
        subst q1 q2 q3
        obtain ⟨j, hj⟩ : ∃ j, L.n = j + 1 := ⟨L.n - 1, by omega⟩
        have c := gd.mks j (by omega) _ hq np lv hz (by omega)
        exact .b rfl (sNew c gd.gua (hj ▸ gd.room) gd.tk (gloB_ok hs h3) (nameOk_ok h4).1 (ckEs_len es L _ h5).2 (okEs es L _ h5 X W gd hs hf hm))
      · cases h1
    · cases h
  | .bits a, L, x, h, X, W, gd, hs, hf, hm => by
    simp only [ckE] at h
    split at h
    · simp only [Bool.and_eq_true, decide_eq_true_eq] at h
      obtain ⟨⟨⟨h1, h2⟩, h3⟩, h4⟩ := h
      subst h1
      exact .b rfl (sBits (okE a L _ h4 X W gd hs hf hm).pe (base_plain h2) h3)
    · cases h
  | .att a f, L, x, h, X, W, gd, hs, hf, hm => by
    simp only [ckE] at h
    split at h
    · rename_i o m pos
      simp only [Bool.and_eq_true, decide_eq_true_eq] at h
      obtain ⟨⟨⟨h1, h2⟩, h3⟩, h4⟩ := h
      subst h1
      exact .b rfl (sAtt gd.ik (any_mem h3) (okE a L _ h4 X W gd hs hf hm).pe (base_plain h2))
    · cases h
  | .mth a k f m es, L, x, h, X, W, gd, hs, hf, hm => by
    simp only [ckE] at h
    split at h
    · rename_i o y apos xs pos
      simp only [Bool.and_eq_true, decide_eq_true_eq] at h
      obtain ⟨⟨⟨⟨⟨⟨⟨h1, h2⟩, h3⟩, h4⟩, h5⟩, h6⟩, h7⟩, h8⟩ := h
      subst h1
      split at h5
      · rename_i z np lv hz
        simp only [Bool.and_eq_true, decide_eq_true_eq] at h5
        obtain ⟨e1, e2⟩ := h5
        subst e1
        rw [List.any_eq_true] at h6
        obtain ⟨⟨f', k', y'⟩, hq, h6⟩ := h6
        simp only [Bool.and_eq_true, decide_eq_true_eq] at h6
        obtain ⟨⟨q1, q2⟩, q3⟩ := h6
        subst q1 q2 q3
        have c := gd.mts L.n (Nat.le_refl _) _ hq np lv hz e2
        have ql := ckEs_len es L _ h8
        refine .b rfl (sMth gd.ik c gd.gua gd.room gd.tk (base_plain h2) ql.2 h4 h3 (okE a L _ h7 X W gd hs hf hm).pe (okEs es L _ h8 X W gd hs hf hm) fun e => ?_)
        subst e
        cases es with
        | nil => rfl
        | cons _ _ => exact absurd ql.1 (by simp [Es.len])
      · cases h5
    · cases h
theorem okEs : ∀ (es : Es) (L : Lx) (xs : List Expr), ckEs G N n es L xs = true → ∀ (X : Cx) (W : WX), Gd X cl W G N L.n Δ gl → X.env.scope = L.sc → X.fn = L.fn → (L.lam = true → LamOk X cl) → PA X xs (tA X.K cl W (evs Δ gl es))
  | .nil, L, x, h, X, W, gd, hs, hf, hm => by
    simp only [ckEs] at h
    split at h
    · exact sNil
    · cases h
  | .cons e es, L, x, h, X, W, gd, hs, hf, hm => by
    simp only [ckEs] at h
    split at h
    · simp only [Bool.and_eq_true] at h
      exact sCons h.1.1 (okE e L _ h.1.2 X W gd hs hf hm).pe (okEs es L _ h.2 X W gd hs hf hm)
    · cases h
theorem okKs : ∀ (es : Es) (L : Lx) (xs : List Keyword), ckKs G N n es L xs = true → ∀ (X : Cx) (W : WX), Gd X cl W G N L.n Δ gl → X.env.scope = L.sc → X.fn = L.fn → (L.lam = true → LamOk X cl) → PK X xs (tA X.K cl W (evs Δ gl es))
  | .nil, L, x, h, X, W, gd, hs, hf, hm => by
    simp only [ckKs] at h
    split at h
    · exact sKNil
    · cases h
  | .cons e es, L, x, h, X, W, gd, hs, hf, hm => by
    simp only [ckKs] at h
    split at h
    · simp only [Bool.and_eq_true] at h
      exact sKCons (okE e L _ h.1 X W gd hs hf hm).pe (okKs es L _ h.2 X W gd hs hf hm)
    · cases h
theorem okO : ∀ (o : Op) (L : Lx) (x : Option Expr), ckO G N n o L x = true → ∀ (X : Cx) (W : WX), Gd X cl W G N L.n Δ gl → X.env.scope = L.sc → X.fn = L.fn → (L.lam = true → LamOk X cl) → PO X x (tO X.K cl W (evo Δ gl o))
  | .no, L, x, h, X, W, gd, hs, hf, hm => by
    simp only [ckO] at h
    split at h
    · exact sNo
    · cases h
  | .so e, L, x, h, X, W, gd, hs, hf, hm => by
    simp only [ckO] at h
    split at h
    · exact sSo (okE e L _ h X W gd hs hf hm).pe
    · cases h
theorem okF : ∀ (o : Op) (L : Lx) (x : List Expr), ckF G N n o L x = true → ∀ (X : Cx) (W : WX), Gd X cl W G N L.n Δ gl → X.env.scope = L.sc → X.fn = L.fn → (L.lam = true → LamOk X cl) → PTs X x (tT X.K cl W (evt Δ gl o))
  | .no, L, x, h, X, W, gd, hs, hf, hm => by
    simp only [ckF] at h
    split at h
    · exact tsNo
    · cases h
  | .so e, L, x, h, X, W, gd, hs, hf, hm => by
    simp only [ckF] at h
    split at h
    · simp only [Bool.and_eq_true] at h
      exact tsSo ((okE e L _ h.2 X W gd hs hf hm).pt h.1)
    · cases h
theorem okI : ∀ (it : It) (L : Lx) (tg x : Expr), ckI G N n it L tg x = true → ∀ (X : Cx) (W : WX), Gd X cl W G N L.n Δ gl → X.env.scope = L.sc → X.fn = L.fn → (L.lam = true → LamOk X cl) → PI X tg x (tI X.K cl W (evi Δ gl it))
  | .pln e, L, tg, x, h, X, W, gd, hs, hf, hm => by
    simp only [ckI] at h
    exact sPln (okE e L _ h X W gd hs hf hm).pe
  | .rgv e, L, tg, x, h, X, W, gd, hs, hf, hm => by
    simp only [ckI] at h
    exact sRgv (okE e L _ h X W gd hs hf hm).pe
  | .rng es, L, tg, x, h, X, W, gd, hs, hf, hm => by
    simp only [ckI] at h
    split at h
    · simp only [Bool.and_eq_true, decide_eq_true_eq] at h
      obtain ⟨⟨⟨h1, h2⟩, h3⟩, h4⟩ := h
      subst h1
      exact sRng (gloB_ok hs h2) (gd.blt _ (any_mem h3)) (ckEs_len es L _ h4).2 (okEs es L _ h4 X W gd hs hf hm)
    · cases h
  | .enm e, L, tg, x, h, X, W, gd, hs, hf, hm => by
    simp only [ckI] at h
    split at h
    · simp only [Bool.and_eq_true, decide_eq_true_eq] at h
      obtain ⟨⟨⟨⟨h1, h2⟩, h3⟩, h4⟩, h5⟩ := h
      subst h1
      exact sEnm (gloB_ok hs h2) (gd.blt _ (any_mem h3)) h4 (okE e L _ h5 X W gd hs hf hm).pe
    · cases h
  | .zip a b, L, tg, x, h, X, W, gd, hs, hf, hm => by
    simp only [ckI] at h
    split at h
    · simp only [Bool.and_eq_true, decide_eq_true_eq] at h
      obtain ⟨⟨⟨⟨⟨⟨h1, h2⟩, h3⟩, h4⟩, h5⟩, h6⟩, h7⟩ := h
      subst h1
      exact sZip (gloB_ok hs h2) (gd.blt _ (any_mem h3)) h4 h5 (okE a L _ h6 X W gd hs hf hm).pe (okE b L _ h7 X W gd hs hf hm).pe
    · cases h
  | .rev e, L, tg, x, h, X, W, gd, hs, hf, hm => by
    simp only [ckI] at h
    split at h
    · simp only [Bool.and_eq_true, decide_eq_true_eq] at h
      obtain ⟨⟨⟨⟨h1, h2⟩, h3⟩, h4⟩, h5⟩ := h
      subst h1
      exact sRev (gloB_ok hs h2) (gd.blt _ (any_mem h3)) h4 (okE e L _ h5 X W gd hs hf hm).pe
    · cases h
  | .rrng es, L, tg, x, h, X, W, gd, hs, hf, hm => by
    simp only [ckI] at h
    split at h
    · simp only [Bool.and_eq_true, decide_eq_true_eq] at h
      obtain ⟨⟨⟨⟨⟨⟨h1, h2⟩, h3⟩, h4⟩, h5⟩, h6⟩, h7⟩ := h
      subst h1 h2
      exact sRrng (gloB_ok hs h3) (gd.blt _ (any_mem h5)) (gloB_ok hs h4) (gd.blt _ (any_mem h6)) (ckEs_len es L _ h7).2 (okEs es L _ h7 X W gd hs hf hm)
    · cases h
theorem okT : ∀ (t : T) (L : Lx) (x : Expr), ckT G N n t L x = true → ∀ (X : Cx) (W : WX), Gd X cl W G N L.n Δ gl → X.env.scope = L.sc → X.fn = L.fn → (L.lam = true → LamOk X cl) → PG X x (tG X.K cl (T.own t) (asn Δ gl t))
  | .nm i, L, x, h, X, W, gd, hs, hf, hm => by
    simp only [ckT] at h
    split at h
    · simp only [Bool.and_eq_true, decide_eq_true_eq, Bool.or_eq_true] at h
      obtain ⟨⟨h1, h2⟩, h3⟩ := h
      exact gNm (by rw [gd.hN]; exact gd.nd) (by rw [gd.hN]; exact h1) (by rw [hs]; exact locB_ok h2) (by rw [hs, hf]; exact h3)
    · cases h
  | .tup ts, L, x, h, X, W, gd, hs, hf, hm => by
    simp only [ckT] at h
    split at h
    · have hl := ckTs_len ts L _ X.env h
      exact gTp gd.calm (okTs ts L _ h X W gd hs hf hm) hl.1 hl.2 fun xs ρ h ρ' h' e => asns_len ts _ _ _ _ _ e
    · cases h
  | .sub a i, L, x, h, X, W, gd, hs, hf, hm => by
    simp only [ckT] at h
    split at h
    · simp only [Bool.and_eq_true] at h
      obtain ⟨⟨h1, h2⟩, h3⟩ := h
      refine gSb (W := W) (fun v => ?_) (okE a L _ h2 X W gd hs hf hm).pe (okE i L _ h3 X W gd hs hf hm).pe
      rename_i l r p
      cases r <;> first | rfl | (simp [plainX] at h1)
    · cases h
theorem okTs : ∀ (ts : Ts) (L : Lx) (xs : List Expr), ckTs G N n ts L xs = true → ∀ (X : Cx) (W : WX), Gd X cl W G N L.n Δ gl → X.env.scope = L.sc → X.fn = L.fn → (L.lam = true → LamOk X cl) → PGs X xs (tGs X.K cl (T.own.Ts.own ts) (asns Δ gl ts))
  | .nil, L, x, h, X, W, gd, hs, hf, hm => by
    simp only [ckTs] at h
    split at h
    · exact gsNil
    · cases h
  | .cons t ts, L, x, h, X, W, gd, hs, hf, hm => by
    simp only [ckTs] at h
    split at h
    · simp only [Bool.and_eq_true] at h
      refine gsCons (okT t L _ h.1 X W gd hs hf hm) (okTs ts L _ h.2 X W gd hs hf hm) ?_
      rw [ckT_star _ _ _ _ X.env h.1]
      rfl
    · cases h
end
end
end HS

/-! The check is good: statements. -/
namespace HS
open PySem L2 PyProof.Rows

/-- a comprehension that is stored with its own step -/
def swB (sc : Scope) (y : Str) (py : Pos) (scope : Scope) (pos : Pos) : Bool := decide (sc.names.lookup y = some .local) && (py.line == pos.line) && !(scope.names.any fun p => p.1 == y && (p.2 == .local || p.2 == .cell))
theorem sw_eq {elt : Expr} {gs : List Comprehension} {scope : Scope} {pos py : Pos} {y : Str} {l : Nat} {env : Env} (hk : env.scope.kind = .function) : swapsWith (.ListComp elt gs scope pos) (some (.Name y py)) l env = pure (swB env.scope y py scope pos) := by
  have hb : env.blockKind = .function := by unfold Env.blockKind; rw [hk]; rfl
  unfold swapsWith swB
  simp only [hb, Expr.pos, Env.kindOf]
  have e : (env.scope.names.lookup y == some NameKind.local) = decide (env.scope.names.lookup y = some NameKind.local) := by
    by_cases h : env.scope.names.lookup y = some NameKind.local
    · simp [h]
    · simp [h]
  rw [e]
  rfl
def isStar : Expr → Bool
  | .Starred .. => true
  | _ => false
/-- a name that may be stored so -/
def stN (sc : Scope) (ln : Nat) : Expr → Option Str
  | .Name id pos => if (sc.names.lookup id == some NameKind.local && pos.line == ln) = true then some id else none
  | _ => none
/-- the stores of a, b = x, y -/
def swp (sc : Scope) (ts vs : List Expr) : Option (Option (List Str)) :=
  if (!(ts.length == 2 || ts.length == 3) || vs.length != ts.length) = true then some none
  else if (vs.any isStar) = true then some none
  else
    let nm := ts.filterMap (stN sc ((ts.head?.map (·.pos.line)).getD 0))
    if (nm.length != ts.length || nm.eraseDups.length != nm.length) = true then some none
    else if (vs.all (foldedForSure 8)) = true then some none
    else if (vs.all (constantsAlone 8)) = true then none
    else some (some nm)
theorem swp_ok {ts vs : List Expr} {k k2 : Nat} {p p2 : Pos} {env : Env} {r : Option (List Str)} (hk : env.scope.kind = .function) (h : swp env.scope ts vs = some r) : swappedStores [.Tuple ts k p] (.Tuple vs k2 p2) env = pure r := by
  have hb : env.blockKind = .function := by unfold Env.blockKind; rw [hk]; rfl
  have hb2 : (env.blockKind != ScopeKind.function) = false := by rw [hb]; rfl
  unfold swp at h
  have key : swappedStores [.Tuple ts k p] (.Tuple vs k2 p2) env = (if (!(ts.length == 2 || ts.length == 3) || vs.length != ts.length || env.blockKind != .function) = true then pure none
    else if (vs.any isStar) = true then pure none
    else
      let nm := ts.filterMap (stN env.scope ((ts.head?.map (·.pos.line)).getD 0))
      if (nm.length != ts.length || nm.eraseDups.length != nm.length) = true then pure none
      else if (vs.all (foldedForSure 8)) = true then pure none
      else if (vs.all (constantsAlone 8)) = true then (do unsupported "assign.tuple-of-constant-expressions:order-of-the-stores"; pure (some nm))
      else pure (some nm)) := rfl
  rw [key]
  simp only [hb2, Bool.or_false]
  dsimp only at h
  generalize (ts.filterMap (stN env.scope ((ts.head?.map (·.pos.line)).getD 0))) = nm at h ⊢
  split at h
  · rename_i c
    cases h
    simp only [c]
    rfl
  · rename_i c
    have c := Bool.eq_false_iff.mpr c
    simp only [c]
    split at h
    · rename_i c2
      cases h
      simp only [c2]
      rfl
    · rename_i c2
      have c2 := Bool.eq_false_iff.mpr c2
      simp only [c2]
      split at h
      · rename_i c3
        cases h
        simp only [c3]
        rfl
      · rename_i c3
        have c3 := Bool.eq_false_iff.mpr c3
        simp only [c3]
        split at h
        · rename_i c4
          cases h
          simp only [c4]
          rfl
        · rename_i c4
          have c4 := Bool.eq_false_iff.mpr c4
          simp only [c4]
          split at h
          · cases h
          · rename_i c5
            have c5 := Bool.eq_false_iff.mpr c5
            cases h
            simp only [c5]
            rfl
def isTup : Expr → Bool
  | .Tuple .. => true
  | _ => false
def isLst : Expr → Bool
  | .List .. => true
  | _ => false
theorem sst_none {tg x : Expr} {env : Env} (h : isTup tg = false ∨ isTup x = false) (h2 : isLst tg = false) : swappedStores [tg] x env = pure none := by
  cases tg <;> first
    | rfl
    | (simp [isLst] at h2; done)
    | (cases x <;> first | rfl | (simp [isTup] at h; done))
end HS

/-! The check is good: statements, the proof. -/
namespace HS
open PySem L2 PyProof.Rows
def isLc : Expr → Bool
  | .ListComp .. => true
  | _ => false
/-- how target = value stores: 0 plainly, 1 a comprehension with its own step, 2 and 3 several names from the right, 9 not known -/
def mode (sc : Scope) (tg v : Expr) : Nat :=
  match v, tg with
  | .ListComp _ _ scope pos, .Name y py => if swB sc y py scope pos = true then 1 else 0
  | .Tuple vs _ _, .Tuple ts _ _ => match swp sc ts vs with
    | some none => 0
    | some (some nm) => match ts with
      | [.Name x _, .Name y _] => if nm = [x, y] then 2 else 9
      | [.Name x _, .Name y _, .Name z _] => if nm = [x, y, z] then 3 else 9
      | _ => 9
    | none => 9
  | _, .List _ _ => 9
  | v, _ => if (plainX v) = true then 0 else 9
def nms : T → List Nat
  | .tup (.cons (.nm i) (.cons (.nm j) .nil)) => [i, j]
  | .tup (.cons (.nm i) (.cons (.nm j) (.cons (.nm l) .nil))) => [i, j, l]
  | _ => []
def isNm : T → Bool
  | .nm _ => true
  | _ => false
def esLen : E → Nat
  | .tup es => es.len
  | _ => 0
def isLcE : E → Bool
  | .lc _ _ _ _ _ => true
  | _ => false
def allLoc (sc : Scope) (N : List Str) (is : List Nat) : Bool := is.all fun i => match N[i]? with
  | some x => decide (sc.names.lookup x = some .local)
  | none => false
mutual
def ckS (G : Gt) (N : List Str) (n : Nat) : S → Lx → Stmt → Bool
  | .asg t e, L, x => match x with
    | .Assign [tg] v _ => ckE G N n e L v && ckT G N n t L tg && (match mode L.sc tg v with
      | 0 => true
      | 1 => isNm t && isLcE e
      | 2 => decide ((nms t).length = 2) && decide ((nms t).Nodup) && allLoc L.sc N (nms t) && decide (esLen e = 2)
      | 3 => decide ((nms t).length = 3) && decide ((nms t).Nodup) && allLoc L.sc N (nms t) && decide (esLen e = 3)
      | _ => false)
    | _ => false
  | .exp e, L, x => match x with
    | .Expr v _ => plainV v && ckE G N n e L v
    | _ => false
  | .ret e, L, x => match x with
    | .Return (some v) _ => ckE G N n e L v
    | _ => false
  | .retn, L, x => match x with
    | .Return none _ => true
    | _ => false
  | .ife c a b, L, x => match x with
    | .If t p q _ => tst c && ckE G N n c L t && ckSs G N n a L p && ckSs G N n b L q
    | _ => false
  | .whl c b, L, x => match x with
    | .While t p [] _ => tst c && ckE G N n c L t && ckSs G N n b L p
    | _ => false
  | .fr t it b, L, x => match x with
    | .For tg iter p [] _ => plainX iter && ckI G N n it L tg iter && ckT G N n t L tg && ckSs G N n b L p
    | _ => false
  | .brk, L, x => match x with
    | .Break _ => true
    | _ => false
  | .cnt, L, x => match x with
    | .Continue _ => true
    | _ => false
  | .pas, L, x => match x with
    | .Pass _ => true
    | .Expr (.Constant (.str _) _ _) _ => true
    | _ => false
  | .never, L, x => true
  | .rse k, L, x => match x with
    | .Raise (some (.Call (.Name y _) [] [] _)) none _ => G.cls.any (fun q => decide (q.1 = k) && decide (q.2 = y)) && G.raz.any (fun j => decide (j = k)) && gloB L.sc y && nameOk y
    | _ => false
  | .dput a k e, L, x => match x with
    | .Assign [.Subscript l r _] v _ => plainV v && ckE G N n a L l && ckE G N n k L r && ckE G N n e L v
    | _ => false
  | .aug a i c, L, x => match x with
    | .AugAssign (.Subscript l r _) .Add (.Constant (.int d) _ _) _ => decide (d = c) && plainX r && ckE G N n a L l && ckE G N n i L r
    | _ => false
  | .sat o f e, L, x => match x with
    | .Assign [.Attribute oe m _] v _ => decide (m = f) && G.ats.any (fun w => decide (w = f)) && plainV v && ckE G N n o L oe && ckE G N n e L v
    | _ => false
def ckSs (G : Gt) (N : List Str) (n : Nat) : Ss → Lx → List Stmt → Bool
  | .nil, L, xs => match xs with
    | [] => true
    | _ => false
  | .cons e es, L, xs => match xs with
    | x :: xs => ckS G N n e L x && ckSs G N n es L xs
    | [] => false
end
theorem allLoc_ok {sc : Scope} {N : List Str} {is : List Nat} {i : Nat} {x : Str} (h : allLoc sc N is = true) (hi : i ∈ is) (hx : N[i]? = some x) : sc.names.lookup x = some .local := by
  unfold allLoc at h
  rw [List.all_eq_true] at h
  have q := h i hi
  rw [hx] at q
  exact of_decide_eq_true q
section
variable {G : Gt} {N : List Str} {n : Nat} {cl : Md} {Δ : Nat → Fn} {gl : Nat → D}
theorem mode0 {sc : Scope} {tg v : Expr} {l : Nat} {env : Env} (hk : env.scope.kind = .function) (hs : env.scope = sc) (h : mode sc tg v = 0) : swapsWithSole [tg] v l env = pure false ∧ swappedStores [tg] v env = pure none := by
  subst hs
  show swapsWith v (some tg) l env = pure false ∧ _
  unfold mode at h
  split at h
  · split at h
    · cases h
    · rename_i q
      refine ⟨?_, sst_none (.inl rfl) rfl⟩
      rw [sw_eq hk, Bool.eq_false_iff.mpr q]
  · split at h
    · rename_i q
      exact ⟨rfl, swp_ok hk q⟩
    · split at h
      · split at h <;> cases h
      · split at h <;> cases h
      · cases h
    · cases h
  · cases h
  · rename_i h1 h2 h3
    split at h
    · rename_i hp
      have k1 : ∀ a b c d e f, v = .ListComp a b c d → tg = .Name e f → False := by
        intros
        subst_vars
        first | exact h2 _ _ _ _ _ _ rfl rfl | exact h1 _ _ _ _ _ _ rfl rfl | exact h3 _ _ _ _ _ _ rfl rfl | exact h2 _ _ _ _ rfl _ _ rfl
      have k2 : ∀ a b c d e f, v = .Tuple a b c → tg = .Tuple d e f → False := by
        intros
        subst_vars
        first | exact h3 _ _ _ _ _ _ rfl rfl | exact h1 _ _ _ _ _ _ rfl rfl | exact h2 _ _ _ _ _ _ rfl rfl | exact h3 _ _ _ rfl _ _ _ rfl
      have k3 : ∀ a b, tg = .List a b → False := by
        intros
        subst_vars
        first | exact h1 _ _ rfl | exact h2 _ _ rfl | exact h3 _ _ rfl | (simp at h; done)
      have ht : isTup tg = false ∨ isTup v = false := by
        cases v <;> first | exact .inr rfl | skip
        cases tg <;> first | exact .inl rfl | skip
        exact (k2 _ _ _ _ _ _ rfl rfl).elim
      have hl : isLst tg = false := by
        cases tg <;> first | rfl | skip
        exact (k3 _ _ rfl).elim
      refine ⟨?_, sst_none ht hl⟩
      by_cases hv : plainV v = true
      · exact swap_plain hv
      · cases v <;> first | (simp [plainX] at hp; done) | (simp [plainV] at hv; done) | skip
        cases tg <;> first | rfl | skip
        exact (k1 _ _ _ _ _ _ rfl rfl).elim
    · cases h
theorem asn_two {i j : Nat} : ∀ xs ρ h, asn Δ gl (.tup (.cons (.nm i) (.cons (.nm j) .nil))) (.tup xs) ρ h = match xs with | [a, b] => .ok ((ρ.set i (some a)).set j (some b)) h | _ => .bad := by
  intro xs ρ h
  match xs with
  | [] => simp [asn, asns]
  | [_] => simp [asn, asns]
  | [_, _] => simp [asn, asns]
  | _ :: _ :: _ :: _ => simp [asn, asns]
theorem asn_three {i j l : Nat} : ∀ xs ρ h, asn Δ gl (.tup (.cons (.nm i) (.cons (.nm j) (.cons (.nm l) .nil)))) (.tup xs) ρ h = match xs with | [a, b, c] => .ok (((ρ.set i (some a)).set j (some b)).set l (some c)) h | _ => .bad := by
  intro xs ρ h
  match xs with
  | [] => simp [asn, asns]
  | [_] => simp [asn, asns]
  | [_, _] => simp [asn, asns]
  | [_, _, _] => simp [asn, asns]
  | _ :: _ :: _ :: _ :: _ => simp [asn, asns]
theorem okAsg (t : T) (e : E) (L : Lx) (tg v : Expr) (pos : Pos) (h : ckS G N n (.asg t e) L (.Assign [tg] v pos) = true) (X : Cx) (W : WX) (gd : Gd X cl W G N L.n Δ gl) (hs : X.env.scope = L.sc) (hf : X.fn = L.fn) (hmm : L.lam = true → LamOk X cl) : PS X (.Assign [tg] v pos) (tS X.K cl W (ex Δ gl (.asg t e))) := by
  simp only [ckS, Bool.and_eq_true] at h
  obtain ⟨⟨h1, h2⟩, h3⟩ := h
  have qe := okE e L v h1 X W gd hs hf hmm
  have qt := okT t L tg h2 X W gd hs hf hmm
  have hN : X.N.Nodup := by rw [gd.hN]; exact gd.nd
  have st : (assignEach [tg] X.env).map (·.2) = [assign tg X.env] := by
    rw [ckT_star t L tg [] X.env h2]; rfl
  split at h3
  · rename_i hm
    obtain ⟨m1, m2⟩ := mode0 (l := pos.line) gd.kind hs hm
    exact sAsg qe.pe qt m1 m2 st
  · rename_i hm
    simp only [Bool.and_eq_true] at h3
    cases t with
    | tup _ => cases h3.1
    | sub _ _ => cases h3.1
    | nm i =>
      cases e <;> first | (cases h3.2; done) | skip
      rename_i elt t2 it tt own
      simp only [ckT] at h2
      split at h2
      · rename_i y py
        simp only [Bool.and_eq_true, decide_eq_true_eq, Bool.or_eq_true] at h2
        obtain ⟨⟨t1, t2'⟩, t3⟩ := h2
        unfold mode at hm
        split at hm
        · rename_i y2 gs scope pos2 z pz ez
          cases ez
          split at hm
          · rename_i hsw
            have hsw0 := hsw
            unfold swB at hsw
            simp only [Bool.and_eq_true, decide_eq_true_eq] at hsw
            obtain ⟨⟨w1, w2⟩, w3⟩ := hsw
            simp only [ckE] at h1
            split at h1
            · rename_i y tg iter ifs scope' pos3 ee
              cases ee
              simp only [Bool.and_eq_true] at h1
              obtain ⟨⟨⟨⟨⟨⟨h1, h2⟩, h3⟩, h4⟩, h5⟩, h6⟩, h7⟩ := h1
              have bk := blk_ok h1
              have ek : (relS scope X.env.scope) = (L.blk scope).sc := by rw [hs]; rfl
              have hv : ∀ j ∈ T.own t2, j ∈ (ownN N own).map (·.2) := fun j hj => by
                rw [ownN_ix]
                rw [List.all_eq_true] at h3
                exact of_decide_eq_true (h3 j hj)
              have q := sSetLc (cl := cl) (W := W) (i := i) hv (ps_setLc (spos := pos) gd.calm hN (by rw [gd.hN]; exact t1) (by rw [hs]; exact w1) (by rw [sw_eq gd.kind, hs, hsw0]) (okI it L _ _ h4 X W gd hs hf hmm) (by rw [gd.hN, hs]; exact bk)
                (fun s H C cs fp => okT t2 _ _ h5 _ NoW (gd.blk s H scope (compEnvC scope cs C X.env) fp bk.kind) ek rfl (fun z => nomatch z))
                (fun s H C cs fp => okF tt _ _ h6 _ NoW (gd.blk s H scope (compEnvC scope cs C X.env) fp bk.kind) ek rfl (fun z => nomatch z))
                (fun s H C cs fp => (okE elt _ _ h7 _ NoW (gd.blk s H scope (compEnvC scope cs C X.env) fp bk.kind) ek rfl (fun z => nomatch z)).pe) fun x => fold_plain h2)
              rw [ownN_ix] at q
              exact q
            · cases h1
          · cases hm
        all_goals first | (cases hm; done) | (split at hm <;> first | (cases hm; done) | (split at hm <;> first | (cases hm; done) | (split at hm <;> cases hm)))
      · cases h2
  · rename_i hm
    simp only [Bool.and_eq_true, decide_eq_true_eq] at h3
    obtain ⟨⟨⟨g1, g2⟩, g3⟩, g4⟩ := h3
    unfold mode at hm
    split at hm
    · split at hm <;> cases hm
    · rename_i vs k1 p1 ts k2 p2
      split at hm
      · cases hm
      · rename_i nm hw
        split at hm
        · rename_i x px y py
          split at hm
          · rename_i en
            subst en
            have hw := swp_ok (k := k2) (k2 := k1) (p := p2) (p2 := p1) gd.kind (by rw [hs]; exact hw)
            unfold nms at g1 g2 g3
            split at g1
            · rename_i i j
              simp only [ckT, ckTs, Bool.and_eq_true, decide_eq_true_eq] at h2
              obtain ⟨⟨⟨a1, _⟩, _⟩, ⟨⟨b1, _⟩, _⟩, _⟩ := h2
              cases e <;> first | (cases g4; done) | skip
              rename_i es
              simp only [ckE] at h1
              have hl := ckEs_len es L vs h1
              have g4 : vs.length = 2 := by rw [hl.1]; exact g4
              match vs, g4 with
              | [va, vb], _ =>
                refine wkS (ps_par gd.calm hN (by rw [gd.hN]; exact a1) (by rw [gd.hN]; exact b1) (by simpa using g2) (by rw [hs]; exact allLoc_ok g3 (by simp) a1) (by rw [hs]; exact allLoc_ok g3 (by simp) b1) (okEs es L _ h1 X W gd hs hf hmm) hw) fun D σ H z => parR (mt := asn Δ gl (.tup (.cons (.nm i) (.cons (.nm j) .nil)))) asn_two z
            · cases g1
            · cases g1
          · cases hm
        · split at hm <;> cases hm
        · cases hm
      · cases hm
    · cases hm
    · split at hm <;> cases hm
  · rename_i hm
    simp only [Bool.and_eq_true, decide_eq_true_eq] at h3
    obtain ⟨⟨⟨g1, g2⟩, g3⟩, g4⟩ := h3
    unfold mode at hm
    split at hm
    · split at hm <;> cases hm
    · rename_i vs k1 p1 ts k2 p2
      split at hm
      · cases hm
      · rename_i nm hw
        split at hm
        · split at hm <;> cases hm
        · rename_i x px y py z pz
          split at hm
          · rename_i en
            subst en
            have hw := swp_ok (k := k2) (k2 := k1) (p := p2) (p2 := p1) gd.kind (by rw [hs]; exact hw)
            unfold nms at g1 g2 g3
            split at g1
            · cases g1
            · rename_i i j l
              simp only [ckT, ckTs, Bool.and_eq_true, decide_eq_true_eq] at h2
              obtain ⟨⟨⟨a1, _⟩, _⟩, ⟨⟨b1, _⟩, _⟩, ⟨⟨c1, _⟩, _⟩, _⟩ := h2
              cases e <;> first | (cases g4; done) | skip
              rename_i es
              simp only [ckE] at h1
              have hl := ckEs_len es L vs h1
              have g4 : vs.length = 3 := by rw [hl.1]; exact g4
              match vs, g4 with
              | [va, vb, vc], _ =>
                simp only [List.nodup_cons, List.mem_cons, List.not_mem_nil, or_false, not_or] at g2
                refine wkS (ps_par3 gd.calm hN (by rw [gd.hN]; exact a1) (by rw [gd.hN]; exact b1) (by rw [gd.hN]; exact c1) g2.1.1 g2.1.2 g2.2.1 (by rw [hs]; exact allLoc_ok g3 (by simp) a1) (by rw [hs]; exact allLoc_ok g3 (by simp) b1) (by rw [hs]; exact allLoc_ok g3 (by simp) c1) (okEs es L _ h1 X W gd hs hf hmm) hw) fun D σ H z => par3R (mt := asn Δ gl (.tup (.cons (.nm i) (.cons (.nm j) (.cons (.nm l) .nil))))) asn_three z
            · cases g1
          · cases hm
        · cases hm
      · cases hm
    · cases hm
    · split at hm <;> cases hm
  · cases h3
mutual
theorem okS : ∀ (s : S) (L : Lx) (x : Stmt), ckS G N n s L x = true → ∀ (X : Cx) (W : WX), Gd X cl W G N L.n Δ gl → X.env.scope = L.sc → X.fn = L.fn → (L.lam = true → LamOk X cl) → PS X x (tS X.K cl W (ex Δ gl s))
  | .asg t e, L, x, h, X, W, gd, hs, hf, hm => by
    have h0 := h
    simp only [ckS] at h
    split at h
    · exact okAsg t e L _ _ _ h0 X W gd hs hf hm
    · cases h
  | .exp e, L, x, h, X, W, gd, hs, hf, hm => by
    simp only [ckS] at h
    split at h
    · simp only [Bool.and_eq_true] at h
      exact sExp (swap_plain h.1) (okE e L _ h.2 X W gd hs hf hm).pe
    · cases h
  | .ret e, L, x, h, X, W, gd, hs, hf, hm => by
    simp only [ckS] at h
    split at h
    · exact sRet (okE e L _ h X W gd hs hf hm).pe
    · cases h
  | .retn, L, x, h, X, W, gd, hs, hf, hm => by
    simp only [ckS] at h
    split at h
    · exact sRetN
    · cases h
  | .ife c a b, L, x, h, X, W, gd, hs, hf, hm => by
    simp only [ckS] at h
    split at h
    · simp only [Bool.and_eq_true] at h
      obtain ⟨⟨⟨h1, h2⟩, h3⟩, h4⟩ := h
      exact sIf ((okE c L _ h2 X W gd hs hf hm).pt h1) (okSs a L _ h3 X W gd hs hf hm) (okSs b L _ h4 X W gd hs hf hm)
    · cases h
  | .whl c b, L, x, h, X, W, gd, hs, hf, hm => by
    simp only [ckS] at h
    split at h
    · simp only [Bool.and_eq_true] at h
      obtain ⟨⟨h1, h2⟩, h3⟩ := h
      exact sWhl gd.pas ((okE c L _ h2 X W gd hs hf hm).pt h1) (okSs b L _ h3 X W gd hs hf hm)
    · cases h
  | .fr t it b, L, x, h, X, W, gd, hs, hf, hm => by
    simp only [ckS] at h
    split at h
    · simp only [Bool.and_eq_true] at h
      obtain ⟨⟨⟨h1, h2⟩, h3⟩, h4⟩ := h
      exact sFor gd.pas gd.calm (okI it L _ _ h2 X W gd hs hf hm) (okT t L _ h3 X W gd hs hf hm) (okSs b L _ h4 X W gd hs hf hm) h1
    · cases h
  | .brk, L, x, h, X, W, gd, hs, hf, hm => by
    simp only [ckS] at h
    split at h
    · exact sBrk
    · cases h
  | .cnt, L, x, h, X, W, gd, hs, hf, hm => by
    simp only [ckS] at h
    split at h
    · exact sCnt
    · cases h
  | .pas, L, x, h, X, W, gd, hs, hf, hm => by
    simp only [ckS] at h
    split at h
    · exact sPas
    · exact sDoc
    · cases h
  | .never, L, x, h, X, W, gd, hs, hf, hm => sNev
  | .rse k, L, x, h, X, W, gd, hs, hf, hm => by
    simp only [ckS] at h
    split at h
    · simp only [Bool.and_eq_true] at h
      obtain ⟨⟨⟨h1, h2⟩, h3⟩, h4⟩ := h
      rw [List.any_eq_true] at h1 h2
      obtain ⟨⟨k', z⟩, hq, h1⟩ := h1
      obtain ⟨j, hj, h2⟩ := h2
      simp only [Bool.and_eq_true, decide_eq_true_eq] at h1 h2
      obtain ⟨e1, e2⟩ := h1
      subst e1 e2 h2
      exact sRse gd.calm gd.tk (gd.cls _ hq) (gd.raz _ hj) (gloB_ok hs h3) (nameOk_ok h4).1
    · cases h
  | .dput a k e, L, x, h, X, W, gd, hs, hf, hm => by
    simp only [ckS] at h
    split at h
    · simp only [Bool.and_eq_true] at h
      obtain ⟨⟨⟨h1, h2⟩, h3⟩, h4⟩ := h
      exact sDput (room65 gd.room) (okE a L _ h2 X W gd hs hf hm).pe (okE k L _ h3 X W gd hs hf hm).pe (okE e L _ h4 X W gd hs hf hm).pe (swap_plain h1)
    · cases h
  | .aug a i c, L, x, h, X, W, gd, hs, hf, hm => by
    simp only [ckS] at h
    split at h
    · simp only [Bool.and_eq_true, decide_eq_true_eq] at h
      obtain ⟨⟨⟨h1, h2⟩, h3⟩, h4⟩ := h
      subst h1
      exact sAug h2 (okE a L _ h3 X W gd hs hf hm).pe (okE i L _ h4 X W gd hs hf hm).pe
    · cases h
  | .sat o f e, L, x, h, X, W, gd, hs, hf, hm => by
    simp only [ckS] at h
    split at h
    · simp only [Bool.and_eq_true, decide_eq_true_eq] at h
      obtain ⟨⟨⟨⟨h1, h2⟩, h3⟩, h4⟩, h5⟩ := h
      subst h1
      exact sSat gd.ik (any_mem h2) (okE o L _ h4 X W gd hs hf hm).pe (okE e L _ h5 X W gd hs hf hm).pe h3
    · cases h
theorem okSs : ∀ (ss : Ss) (L : Lx) (xs : List Stmt), ckSs G N n ss L xs = true → ∀ (X : Cx) (W : WX), Gd X cl W G N L.n Δ gl → X.env.scope = L.sc → X.fn = L.fn → (L.lam = true → LamOk X cl) → PSs X xs (tS X.K cl W (exs Δ gl ss))
  | .nil, L, x, h, X, W, gd, hs, hf, hm => by
    simp only [ckSs] at h
    split at h
    · exact ssNil
    · cases h
  | .cons s ss, L, x, h, X, W, gd, hs, hf, hm => by
    simp only [ckSs] at h
    split at h
    · simp only [Bool.and_eq_true] at h
      exact ssCons (okS s L _ h.1 X W gd hs hf hm) (okSs ss L _ h.2 X W gd hs hf hm)
    · cases h
end
end
end HS

/-! A def keeps its promise; all defs do. -/
namespace HS
open PySem L2 PyProof.Rows

/-- a def of the text: name, text, names of its slots, parameters, level, the evaluator's text -/
structure DefD where
  x : Str
  st : Stmt
  N : List Str
  ps : List Str
  lv : Nat
  df : Df
  lam : Bool := false
  cls : Option (Nat × Str) := none
/-- its name among the module's, its qualified name -/
def DefD.gn (d : DefD) : Str := match d.cls with
  | none => d.x
  | some _ => ""
def DefD.qn (d : DefD) : Str := match d.cls with
  | none => d.x
  | some (_, C) => (C ++ ".") ++ d.x
/-- what the defs of a level tell, from the levels below -/
noncomputable def del (tab : Nat → Df) (lv : Nat → Nat) (gl : Nat → D) : Nat → Nat → Fn
  | 0, _ => fun _ _ => .bad
  | n + 1, k => if lv k = n then run (del tab lv gl n) gl (tab k) else del tab lv gl n k
theorem del_at {tab : Nat → Df} {lv : Nat → Nat} {gl : Nat → D} {n k : Nat} (h : lv k < n) : del tab lv gl n k = run (del tab lv gl (lv k)) gl (tab k) := by
  induction n with
  | zero => omega
  | succ n ih =>
    unfold del
    by_cases e : lv k = n
    · rw [if_pos e, e]
    · rw [if_neg e]
      exact ih (by omega)

section
variable {K : PySem.W.Frag} {cl : Md} {H H' : Hp} {μ μ' : List Addr}
/-- cells made behind are left out -/
theorem Go.tidy {h h' : Hh} (rh : RlH K cl H μ h) (g : Go K cl μ H h' μ' H') (p : h <+: h') : Go K cl μ H h μ H' := by
  refine ⟨List.prefix_rfl, g.tp, g.fr, fun _ m => .inl m, g.rh.tb, rh.len, rh.nd, fun n c a e1 e2 => ?_⟩
  have r0 := rh.at_ n c a e1 e2
  have r1 := g.rh.at_ n c a (pre_get p e1) (pre_get g.pre e2)
  cases c with
  | lst xs =>
    obtain ⟨vs, q, r⟩ := r1
    obtain ⟨vs0, _, r0⟩ := r0
    exact ⟨vs, q, Rls.back g.pre r r0⟩
  | dic kvs => exact r1
  | ins _ _ =>
    obtain ⟨C, dx, vs, q0, q, q1, q2, r⟩ := r1
    obtain ⟨C0, dx0, vs0, _, _, _, _, r0⟩ := r0
    exact ⟨C, dx, vs, q0, q, q1, q2, Rls.back g.pre r r0⟩
  | dit _ =>
    obtain ⟨ys, q, k, q1, r⟩ := r1
    obtain ⟨ys0, _, _, _, r0⟩ := r0
    exact ⟨ys, q, k, q1, Rls.back g.pre r r0⟩
theorem Go.tidy1 {h h' : Hh} {n : Nat} {a : Addr} {xs : List D} (rh : RlH K cl H μ h) (g : Go K cl μ H h' μ' H') (p : h <+: h') (hn : h.length ≤ n) (e : h'[n]? = some (.lst xs)) (f : D.flats xs = true) (ea : μ'[n]? = some a) : Go K cl μ H (h ++ [.lst xs]) (μ ++ [a]) H' := by
  have t := g.tidy rh p
  obtain ⟨vs, q, r⟩ := g.rh.at_ n _ a e ea
  have na : a ∉ μ := fun m => by
    obtain ⟨i, hi⟩ := List.getElem?_of_mem m
    have hl : i < h.length := by rw [← rh.len]; exact (List.getElem?_eq_some_iff.mp hi).1
    obtain ⟨h1, e1⟩ := List.getElem?_eq_some_iff.mp (pre_get g.pre hi)
    obtain ⟨h2, e2⟩ := List.getElem?_eq_some_iff.mp ea
    have := (List.getElem_inj g.rh.nd).mp (e1.trans e2.symm)
    omega
  have fresh : NoT H a := (g.nw a (List.mem_of_getElem? ea)).resolve_left na
  exact t.adopt fresh na q (Rls.flat f r)
/-- what a def hands back meets its wish -/
theorem Pg.tidy {h h' : Hh} {d : D} {Q : VK} {W : HS.X → Hh → List Addr → Hp → Prop} (rh : RlH K cl H μ h) (g : Go K cl μ H h' μ' H') (x : Pg K cl μ H (HS.tidy h d h') (VP K cl Q) W) {v : V} (r : Rl K cl H' μ' d v) : Q v H' := by
  unfold HS.tidy at x
  split at x
  · rename_i c
    exact x μ H' (g.tidy rh c.2) v (Rl.flat c.1 r)
  · split at x
    · rename_i n
      split at x
      · rename_i xs e
        split at x
        · rename_i c
          obtain ⟨a, rfl, ea⟩ := Rl.ref_iff.mp r
          refine x (μ ++ [a]) H' (g.tidy1 rh c.2.1 c.2.2 e c.1 ea) _ (Rl.ref_iff.mpr ⟨a, rfl, ?_⟩)
          rw [← rh.len]
          simp
        · exact x μ' H' g v r
      · exact x μ' H' g v r
    · exact x μ' H' g v r
end

section
variable {P : Program} {w : World} {K : PySem.W.Frag} {mg : Str → Option Value} {base : Heap} {cl : Md}
/-- a def by its body -/
theorem fnG_of {k : Nat} {f : Addr} {qual : Str} {st : Stmt} {fd : FuncData} {N ps : List Str} {x : Str} {sp : Sp} (F : L2.Fun K x qual st f fd) (S : FnScope N ps (defScope st)) (len : ∀ vs H Q E, sp vs H Q E → vs.length = ps.length)
    (hbody : ∀ (cdv : Value) (A : Around) (outer : List Env) (s : Shared) (H : Hp) (vs : List V) (Q : VK) (E : XK), fd.code = cdv → A.guards = some [] → Room k (A.deeper (envOfC qual (defScope st) s.heap.objs.size f cdv)) → sp vs H Q E →
      ∃ t : TS, PSs (cxOf (L2.CX P w) P w K mg base N qual (defScope st) f cdv A outer s H E) (defBody st) t ∧ t { nx := fun _ H' => Q .non H', rt := Q } (start N vs) H) :
    FnG P w K mg base (k + 1) f fd ps sp := by
  obtain ⟨oc, od, kV, doc, pm, an, cdv, ct, osl, rfl, lk, hcd⟩ := F.ex
  constructor
  · exact len
  · intro A outer s H args us vs Q E hg hr e0 hb r hsp
    have keepB : ∀ b o, base.get? b = some o → s.heap.get? b = some o := fun b o z => (e0.bs b o z).1
    have inS : K.In s.heap := e0.mod.kin.keeps keepB
    have kinds : ∀ y ∈ ps.zip us, (defScope st).names.lookup y.1 = some .local ∨ ((defScope st).names.lookup y.1 = some .cell ∧ ((cellsFrom (s.heap.objs.size + 1) (defScope st).names []).lookup y.1).isSome = true) := by
      rintro ⟨nm, u⟩ hy
      exact (S.par nm (List.of_mem_zip hy).1).imp id fun q => ⟨q, PySem.W.cellsFrom_some _ _ _ (.inl q)⟩
    refine codeAny_call_function hr.depth (inS _ _ lk) rfl S.co S.gen rfl (PySem.W.codeRec_of inS hcd) (hb _ _ _ _ (wpAny_newFunctionEnv_cells S.kind kinds ?_))
    rintro env rfl s1 x1
    refine ⟨(e0.mod.nolimit.keeps keepB).keeps x1.toInCall.keep, codeAny_func ?_⟩
    obtain ⟨t, ht, hq⟩ := hbody cdv A outer s H vs Q E rfl hg (hr.deeper _) hsp
    have I1 := inv_start (CX := L2.CX P w) (P := P) (w := w) (N := N) (E := E) S hr.hd e0 (len _ _ _ _ hsp) r x1
    refine wpAny_mono (ht.run [] s1 (start N vs) H _ I1 hq) (fun fl s' z => ?_) (fun e s' z => z)
    cases fl with
    | brk => exact z.elim fun _ q => q.elim fun _ q => q.2.elim
    | cont => exact z.elim fun _ q => q.elim fun _ q => q.2.elim
    | next =>
      obtain ⟨σ', H', J, q⟩ := z
      exact ⟨.non, H', J.os, J.bare, J.base, J.hok, rfl, q⟩
    | ret u =>
      obtain ⟨v, σ', H', J, rv, q⟩ := z
      exact ⟨v, H', J.os, J.bare, J.base, J.hok, rv, q⟩
end
end HS

/-! All defs of a module keep their promises. -/
namespace HS
open PySem L2 PyProof.Rows

/-- a def's own scope: parameters first, no name from around it -/
def scB (N ps : List Str) (sc : Scope) : Bool :=
  (sc.kind == ScopeKind.function) && (sc.isCoroutine == false) && (sc.isGenerator == false) && decide N.Nodup && decide (N.take ps.length = ps) &&
    ps.all (locB sc) && sc.names.all (fun y => !(y.2 == NameKind.free))
theorem scB_ok {N ps : List Str} {sc : Scope} (h : scB N ps sc = true) : FnScope N ps sc := by
  simp only [scB, Bool.and_eq_true, List.all_eq_true, decide_eq_true_eq, beq_iff_eq] at h
  obtain ⟨⟨⟨⟨⟨⟨a, b⟩, c⟩, d⟩, e⟩, f⟩, g⟩ := h
  exact ⟨a, b, c, d, e, fun x hx => locB_ok (f x hx), fun y hy z => by
    have := g y hy
    rw [z] at this
    simp at this⟩
def ckD (G : Gt) (d : DefD) : Bool := scB d.N d.ps (defScope d.st) && decide (d.df.np = d.ps.length) && decide (d.df.ns = d.N.length) && ckSs G d.N d.lv d.df.body ⟨defScope d.st, fun _ => true, d.lv, d.lam && d.cls.isNone⟩ (defBody d.st)
/-- where the lambdas of a def stand -/
def qLam (x : Str) : Str := (x ++ ".<locals>.") ++ "<lambda>"
/-- a def of the module as it stands -/
structure DefOk (K : PySem.W.Frag) (mg : Str → Option Value) (cl : Md) (kws : List (Nat × Nat × List Str × List Nat)) (k : Nat) (d : DefD) (f : Addr) (fd : FuncData) : Prop where
  fn : L2.Fun K d.x d.qn d.st f fd
  mgf : d.cls = none → mg d.x = some (.ref f)
  met : ∀ j C, d.cls = some (j, C) → ∃ a, cl.i j = some a ∧ Meth K a d.x f ∧ (d.x = "__init__" → mg C = some (.ref a) ∧ Mk K a f)
  bd : ∀ (s : Shared) (us : List Value), us.length = d.ps.length → BindsTo s fd ⟨us, []⟩ (d.ps.zip us)
  kw : ∀ m nm idx, (k, m, nm, idx) ∈ kws → KwOk fd d.ps nm m idx
  lam : (d.lam && d.cls.isNone) = true → ∃ c P, fd.code = .ref c ∧ (c, P) ∈ cl.cs ∧ (P, qLam d.qn) ∈ cl.T ∧ ∀ p ∈ cl.T, p.1 = P → p.2 = qLam d.qn
/-- what is known of the module -/
structure Mdl (K : PySem.W.Frag) (mg : Str → Option Value) (cl : Md) (ds : List DefD) (G : Gt) (gl : Nat → D) : Prop where
  fns : G.fns = ds.map fun d => (d.gn, d.ps.length, d.lv)
  ck : ∀ d ∈ ds, ckD G d = true
  defs : ∀ k d, ds[k]? = some d → ∃ f fd, DefOk K mg cl G.kws k d f fd
  glb : ∀ k x, G.glb[k]? = some x → ∃ v u, mg x = some u ∧ RelV v u ∧ ∀ H μ, Rl K cl H μ (gl k) v
  blt : ∀ x ∈ G.blt, mg x = none
  gcd : G.gcd = true → BfOk mg .gcd
  cls : ∀ q ∈ G.cls, ClsK K mg cl q.1 q.2
  raz : ∀ k ∈ G.raz, RazK K cl k
  sub : SubK K cl
  td : ∀ q ∈ G.td, TdAll K mg cl q.1 q.2
  nr : ∀ q ∈ G.nr, NrAll K mg G.fns q.1 q.2
  ik : InsK K cl G.ats
  mts : ∀ q ∈ G.mts, ∃ d C, ds[q.1]? = some d ∧ d.cls = some (q.2.1, C) ∧ d.x = q.2.2
  mks : ∀ q ∈ G.mks, ∃ d, ds[q.1]? = some d ∧ d.cls = some (q.2.1, q.2.2) ∧ d.x = "__init__"
def tabOf (ds : List DefD) (k : Nat) : Df := match ds[k]? with | some d => d.df | none => ⟨0, 0, .nil⟩
def lvOf (ds : List DefD) (k : Nat) : Nat := match ds[k]? with | some d => d.lv | none => 0
noncomputable abbrev dels (ds : List DefD) (gl : Nat → D) (n : Nat) : Nat → Fn := del (tabOf ds) (lvOf ds) gl n

theorem run_np {Δ : Nat → Fn} {gl : Nat → D} {f : Df} {K : PySem.W.Frag} {cl : Md} {μ : List Addr} {H : Hp} {xs : List D} {h : Hh} {P : D → Hh → List Addr → Hp → Prop} {W : HS.X → Hh → List Addr → Hp → Prop} (x : Pg K cl μ H (run Δ gl f xs h) P W) : xs.length = f.np := by
  unfold run at x
  split at x
  · assumption
  · exact x.elim
section
variable {P : Program} {w : World} {K : PySem.W.Frag} {mg : Str → Option Value} {base : Heap} {cl : Md} {ds : List DefD} {G : Gt} {gl : Nat → D}
theorem dels_eq {j n k : Nat} {d : DefD} (hd : ds[k]? = some d) (h : d.lv < j) (hj : j ≤ n) : dels ds gl j k = dels ds gl n k := by
  have e1 : lvOf ds k = d.lv := by unfold lvOf; rw [hd]
  exact (del_at (tab := tabOf ds) (lv := lvOf ds) (gl := gl) (n := j) (k := k) (by rw [e1]; exact h)).trans (del_at (tab := tabOf ds) (lv := lvOf ds) (gl := gl) (n := n) (k := k) (by rw [e1]; omega)).symm
theorem def_ok (M : Mdl K mg cl ds G gl) (sy : SysOk base) (hT : ∀ p ∈ cl.cs, LamX.TabB base mg p.1 p.2) {n k : Nat} {d : DefD} {f : Addr} {fd : FuncData} (hd : ds[k]? = some d) (hn : d.lv = n) (F : DefOk K mg cl G.kws k d f fd)
    (ih : ∀ j, j ≤ n → ∀ k d, ds[k]? = some d → d.lv < j → ∃ f fd, DefOk K mg cl G.kws k d f fd ∧ FnG P w K mg base j f fd d.ps (spF K cl (dels ds gl n k))) :
    FnG P w K mg base (n + 1) f fd d.ps (spF K cl (run (dels ds gl n) gl d.df)) := by
  have ck := M.ck d (List.mem_of_getElem? hd)
  unfold ckD at ck
  simp only [Bool.and_eq_true, decide_eq_true_eq] at ck
  obtain ⟨⟨⟨c1, c2⟩, c3⟩, c4⟩ := ck
  have S0 := scB_ok c1
  refine fnG_of F.fn S0 (fun vs H Q E ⟨μ, h, xs, rh, r, pg⟩ => by rw [← r.length, run_np pg, c2]) fun cdv A outer s H vs Q E hcd hg hr ⟨μ, h, xs, rh, r, pg⟩ => ?_
  have gd : Gd (cxOf (L2.CX P w) P w K mg base d.N d.qn (defScope d.st) f cdv A outer s H E) cl (fun c dd _ H' => E c dd H') G d.N d.lv (dels ds gl n) gl := by
    refine ⟨rfl, hg, by rw [hn]; exact hr, rfl, S0.nd, S0.kind, sy, takes_of rfl rfl rfl rfl, passes_of rfl, fun j hj k' x np lv e hl hx => ?_, M.cls, M.raz, M.sub, M.td, M.nr, M.glb, M.blt, M.gcd, M.ik, fun j hj q hq np lv e hl => ?_, fun j hj q hq np lv e hl => ?_⟩
    · rw [M.fns, List.getElem?_map] at e
      cases e' : ds[k']? with
      | none => rw [e'] at e; cases e
      | some d' =>
        rw [e'] at e
        cases e
        obtain ⟨f', fd', F', g'⟩ := ih j (by rw [← hn]; exact hj) k' d' e' hl
        have hc : d'.cls = none := by
          cases q : d'.cls with
          | none => rfl
          | some _ => exact absurd (show d'.gn = ("" : Str) by unfold DefD.gn; rw [q]) hx
        have hg' : d'.gn = d'.x := by unfold DefD.gn; rw [hc]
        refine ⟨d'.ps, f', fd', rfl, ⟨g', by rw [hg']; exact F'.mgf hc, F'.fn.kp, F'.bd⟩, F'.kw⟩
    · obtain ⟨d', C, e', hc, hx⟩ := M.mts q hq
      rw [M.fns, List.getElem?_map, e'] at e
      simp only [Option.map_some, Option.some.injEq, Prod.mk.injEq] at e
      obtain ⟨f', fd', F', g'⟩ := ih j (by rw [← hn]; exact hj) q.1 d' e' (by rw [e.2.2]; exact hl)
      obtain ⟨a, h1, h2, _⟩ := F'.met _ _ hc
      exact ⟨⟨a, f', fd', d'.ps, e.2.1, h1, by rw [← hx]; exact h2, g', F'.bd⟩⟩
    · obtain ⟨d', e', hc, hx⟩ := M.mks q hq
      rw [M.fns, List.getElem?_map, e'] at e
      simp only [Option.map_some, Option.some.injEq, Prod.mk.injEq] at e
      obtain ⟨f', fd', F', g'⟩ := ih j (by rw [← hn]; exact hj) q.1 d' e' (by rw [e.2.2]; exact hl)
      obtain ⟨a, h1, _, h3⟩ := F'.met _ _ hc
      obtain ⟨h4, h5⟩ := h3 hx
      exact ⟨⟨a, f', fd', d'.ps, e.2.1, h1, h4, h5, g', F'.bd⟩⟩
  have lo : (d.lam && d.cls.isNone) = true → LamOk (cxOf (L2.CX P w) P w K mg base d.N d.qn (defScope d.st) f cdv A outer s H E) cl := fun hl => by
    obtain ⟨c, Pt, e1, e2, e3, e4⟩ := F.lam hl
    exact ⟨c, Pt, by rw [← e1, hcd]; rfl, hT _ e2, e3, e4⟩
  refine ⟨_, okSs d.df.body ⟨defScope d.st, fun _ => true, d.lv, d.lam && d.cls.isNone⟩ _ c4 _ _ gd rfl rfl lo, μ, xs.map some ++ List.replicate (d.df.ns - xs.length) none, h, ?_, rh, ?_⟩
  · have := RlE.start (K := K) (cl := cl) r d.N.length
    rw [c3]
    exact this
  · have hl := run_np pg
    unfold run at pg
    rw [if_pos hl] at pg
    cases e : exs (dels ds gl n) gl d.df.body (xs.map some ++ List.replicate (d.df.ns - xs.length) none) h with
    | bad => rw [e] at pg; exact pg
    | ex _ _ => rw [e] at pg; exact pg.elim
    | ok fl h' =>
      rw [e] at pg
      intro μ' H' g
      cases fl with
      | nx ρ => exact fun σ _ => Pg.tidy rh g pg (Rl.non_iff.mpr rfl)
      | rt v => exact fun v rv => Pg.tidy rh g pg rv
      | bk ρ => exact pg.elim
      | ct ρ => exact pg.elim
      | xc x ρ => exact fun σ _ c dd rx => pg μ' H' g c dd rx
theorem defs_ok (M : Mdl K mg cl ds G gl) (sy : SysOk base) (hT : ∀ p ∈ cl.cs, LamX.TabB base mg p.1 p.2) : ∀ (n k : Nat) (d : DefD), ds[k]? = some d → d.lv < n → ∃ f fd, DefOk K mg cl G.kws k d f fd ∧ FnG P w K mg base n f fd d.ps (spF K cl (dels ds gl n k)) := by
  intro n
  induction n using Nat.strongRecOn with
  | _ n ih =>
    intro k d hd hl
    obtain ⟨f, fd, F⟩ := M.defs k d hd
    have q := def_ok (P := P) (w := w) (base := base) M sy hT hd rfl F (fun j hj k' d' hd' hl' => by
      obtain ⟨f', fd', F', g'⟩ := ih j (by omega) k' d' hd' hl'
      exact ⟨f', fd', F', by rw [← dels_eq hd' hl' hj]; exact g'⟩)
    have e1 : lvOf ds k = d.lv := by unfold lvOf; rw [hd]
    have e2 : tabOf ds k = d.df := by unfold tabOf; rw [hd]
    have e : dels ds gl n k = run (dels ds gl d.lv) gl d.df := by
      have z := del_at (tab := tabOf ds) (lv := lvOf ds) (gl := gl) (n := n) (k := k) (by rw [e1]; exact hl)
      rw [e1, e2] at z
      exact z
    refine ⟨f, fd, F, ?_⟩
    rw [e]
    exact q.mono hl
end
end HS

/-! The law's end: its def, called with the script. -/
namespace HS
open PySem L2 PyProof.Rows

open Classical in
/-- the script alone is tracked, unless it is the module's own; the empty tables -/
noncomputable def scrH (K : PySem.W.Frag) (ts : List Addr) (a : Addr) (o : Obj) (vs : List V) : Hp := fun b => if b = a ∧ K.lookup a = none then some (.frz o (.lst vs)) else if b ∈ ts then some (.tbl #[]) else none
theorem scrH_some {K : PySem.W.Frag} {ts : List Addr} {a b : Addr} {o : Obj} {vs : List V} {u : HO} (h : scrH K ts a o vs b = some u) : (b = a ∧ K.lookup a = none ∧ u = .frz o (.lst vs)) ∨ (b ∈ ts ∧ u = .tbl #[]) := by
  unfold scrH at h
  split at h
  · rename_i c
    cases h
    exact .inl ⟨c.1, c.2, rfl⟩
  · split at h
    · rename_i c
      cases h
      exact .inr ⟨c, rfl⟩
    · cases h
/-- an empty table -/
abbrev tab0 : Obj := { cls := .none, data := .fields #[] }
section
variable {P : Program} {w : World} {K : PySem.W.Frag} {mg mb : Str → Option Value}
set_option maxHeartbeats 1000000 in
theorem call_end {k : Nat} {fa a : Addr} {fd : FuncData} {x : Str} {sp : Sp} {s₁ : Shared} {us : List Value} {ns : List Int} {cs : List (Addr × Addr)} (KX : K.In s₁.heap) (g1 : s₁.heap.Ns mainGlobals mg) (g2 : s₁.heap.Ns builtinsNs mb)
    (g3 : ∀ x : Str, x ≠ "__name__" → mb x = bootBuiltins x) (lim : s₁.heap.NoLimit) (gen : s₁.gens = #[]) (ea : s₁.heap.get? a = some { cls := .type "list", data := .seq us.toArray }) (hi : IntsAre us ns) (hl : ns.length ≤ sizeLine) (hr : Room k callerA)
    (hT : ∀ p ∈ cs, s₁.heap.get? p.2 = some tab0) (nT : ∀ p ∈ cs, K.lookup p.2 = none) (cd : ∀ p ∈ cs, PySem.W.CodeHd s₁.heap p.1 p.2)
    (hbm : ∃ (bm : Addr) (ob : Obj), mg "__builtins__" = some (.ref bm) ∧ bm ≠ builtinsNs ∧ s₁.heap.get? bm = some ob ∧ ob.cls = .type "module" ∧ ob.dict = some builtinsNs ∧ ob.data = .plain)
    (sm : SysOk s₁.heap)
    (F : ∀ base : Heap, K.In base → base.Ns mainGlobals mg → (∀ p ∈ cs, LamX.TabB base mg p.1 p.2) → SysOk base → FnG P w K mg base k fa fd [x] sp) (hbind : ∀ (s : Shared) (u : Value), BindsTo s fd ⟨[u], []⟩ [(x, u)])
    (hsp : ∀ H : Hp, (∀ p ∈ cs, H p.2 = some (.tbl #[])) → SqF K H a (ns.map V.int) → sp [.ref a] H (fun v _ => v = .bl true) fun _ _ _ => False) :
    codeAny (model P w) callerA (.call (.ref fa) ⟨[.ref a], []⟩) (fun r s' => r = .ok (.ret (.bool true)) ∧ OldK s₁.heap s'.heap ∧ s'.os = s₁.os ∧ AllBare s'.gens) s₁ := by
  have rv : Vals (ns.map V.int) us := vals_ints hi
  have lu := hi.length
  have memT : ∀ p ∈ cs, p.2 ∈ cs.map (·.2) := fun p hp => List.mem_map.mpr ⟨p, hp, rfl⟩
  have isT : ∀ b ∈ cs.map (·.2), s₁.heap.get? b = some tab0 := fun b hb => by
    obtain ⟨p, hp, rfl⟩ := List.mem_map.mp hb
    exact hT p hp
  have aT : a ∉ cs.map (·.2) := fun z => by
    have q := isT a z
    rw [ea] at q
    have := congrArg Obj.data (Option.some.inj q)
    cases this
  generalize eo : ({ cls := .type "list", data := .seq us.toArray } : Obj) = o at ea
  generalize eH : scrH K (cs.map (·.2)) a o (ns.map V.int) = H
  have some_ : ∀ {b u}, H b = some u → (b = a ∧ K.lookup a = none ∧ u = .frz o (.lst (ns.map V.int))) ∨ (b ∈ cs.map (·.2) ∧ u = .tbl #[]) := fun {b u} z => scrH_some (by rw [eH]; exact z)
  have tabs : ∀ b ∈ cs.map (·.2), H b = some (.tbl #[]) := fun b hb => by
    rw [← eH]
    unfold scrH
    rw [if_neg (fun z => aT (by rw [← z.1]; exact hb)), if_pos hb]
  have hok : HOk P w H s₁.heap := fun b u z => by
    rcases some_ z with ⟨rfl, _, rfl⟩ | ⟨hb, rfl⟩
    · exact ⟨ea, by rw [List.length_map]; exact hl, us, 0, rv, by rw [ea, ← eo]⟩
    · exact isT b hb
  have none_of : ∀ {b : Addr} {ob : Obj}, s₁.heap.get? b = some ob → ob ≠ o → ob ≠ tab0 → H b = none := fun {b ob} e n1 n2 => by
    cases q : H b with
    | none => rfl
    | some u =>
      rcases some_ q with ⟨rfl, _, _⟩ | ⟨hb, _⟩
      · rw [ea] at e; exact absurd (Option.some.inj e).symm n1
      · rw [isT b hb] at e; exact absurd (Option.some.inj e).symm n2
  have low : ∀ {b : Addr} {ob : Obj}, s₁.heap.get? b = some ob → H b = none → (hidT s₁.heap H).get? b = some ob := fun z y => hidT_get z y
  have ndict : ∀ {ob : Obj} {es ep}, ob.data = .dict es ep → ob ≠ o ∧ ob ≠ tab0 := fun {ob es ep} d => ⟨(fun z => by rw [z, ← eo] at d; cases d), (fun z => by rw [z] at d; cases d)⟩
  have nsLow : ∀ {b : Addr} {m : Str → Option Value}, s₁.heap.Ns b m → (hidT s₁.heap H).Ns b m := fun {b m} ⟨ob, es, ep, z, dd, r⟩ => ⟨ob, es, ep, low z (none_of z (ndict dd).1 (ndict dd).2), dd, r⟩
  have kLow : K.In (hidT s₁.heap H) := fun b ob z => low (KX b ob z) (by
    cases q : H b with
    | none => rfl
    | some u =>
      rcases some_ q with ⟨e, nk, _⟩ | ⟨hb, _⟩
      · rw [e, nk] at z
        cases z
      · obtain ⟨p, hp, rfl⟩ := List.mem_map.mp hb
        rw [nT p hp] at z
        cases z)
  have sLow : SysOk (hidT s₁.heap H) := by
    obtain ⟨oc, es, n, e1, e2⟩ := sm
    exact ⟨oc, es, n, low e1 (none_of e1 (ndict e2).1 (ndict e2).2), e2⟩
  have lLow : (hidT s₁.heap H).NoLimit := lim.elim fun mc z => ⟨mc, nsLow z.1, z.2⟩
  have e0 : Env0 P w K mg (hidT s₁.heap H) callerA [] s₁ H := by
    refine ⟨rfl, ⟨kLow, nsLow g1, ⟨mb, nsLow g2, g3⟩, lLow⟩, fun b ob z => of_hidT z, ?_, trivial, ?_, hok, .of_eq gen⟩
    · rw [hidT_size]; exact Nat.le_refl _
    · intro b hb; cases hb
  have TB : ∀ p ∈ cs, LamX.TabB (hidT s₁.heap H) mg p.1 p.2 := fun p hp => by
    refine ⟨?_, ?_, fun z => ?_⟩
    · obtain ⟨oc, ws, file, tf, flags, tg, inF, text, tt, e1, r1, r2, r3, rest⟩ := cd p hp
      refine ⟨oc, ws, file, tf, flags, tg, inF, text, tt, low e1 (none_of e1 (fun z => ?_) fun z => ?_), r1, r2, r3, rest⟩
      · rw [z, ← eo] at r2; cases r2
      · rw [z] at r2
        cases r2
        simp at r3
    · obtain ⟨bm, ob, b1, b2, b3, b4, b5, b6⟩ := hbm
      have nG : bm ≠ mainGlobals := fun q => by
        obtain ⟨oc, es, ep, e, hd, _⟩ := g1
        rw [q, e] at b3
        cases b3
        rw [hd] at b6
        cases b6
      have nP : bm ≠ p.2 := fun q => by
        rw [q, hT p hp] at b3
        cases b3
        cases b6
      refine ⟨bm, ob, b1, b2, nG, nP, low b3 (none_of b3 (fun z => ?_) fun z => ?_), b4, b5, b6⟩
      · rw [z, ← eo] at b6; cases b6
      · rw [z] at b6; cases b6
    · obtain ⟨oc, es, ep, e, hd, _⟩ := g1
      rw [z, hT p hp] at e
      cases e
      cases hd
  have sq : SqF K H a (ns.map V.int) := by
    cases q : K.lookup a with
    | none =>
      refine .inl ⟨o, ?_⟩
      rw [← eH]
      unfold scrH
      rw [if_pos ⟨rfl, q⟩]
    | some ob =>
      have z := KX a ob q
      rw [ea] at z
      cases z
      refine .inr ⟨o, us.toArray, 0, q, ?_, ?_, ?_, by rw [List.size_toArray, lu]; exact hl, rv⟩ <;> rw [← eo]
  refine codeAny_mono ((F _ kLow (nsLow g1) TB sLow).run callerA [] s₁ H ⟨[.ref a], []⟩ [.ref a] [.ref a] _ _ rfl hr e0 (hbind s₁ (.ref a)) (.cons rfl .nil) (hsp H (fun p hp => tabs _ (memT p hp)) sq)) fun r s' z => ?_
  cases r with
  | error e =>
    obtain ⟨_, _, _, _, _, _, _, _, _, _, _, _, bad⟩ := z
    exact bad.elim
  | ok fl =>
    cases fl with
    | ret u =>
      obtain ⟨v, H', os, bare, un, hok', r', rfl⟩ := z
      cases (show u = Value.bool true from r')
      have key : ∀ b o, b ∉ cs.map (·.2) → s₁.heap.get? b = some o → s'.heap.get? b = some o := fun b o nb y => by
        cases q : H b with
        | none => exact un.keep b o y q (fun z => nomatch z) (fun z => nomatch z)
        | some u =>
          rcases some_ q with ⟨_, _, rfl⟩ | ⟨hb, _⟩
          · have k1 := (hok b _ q).1
            have k2 := (hok' b _ (un.frzs b _ _ q)).1
            rw [y] at k1
            cases k1
            exact k2
          · exact absurd hb nb
      have grown : ∀ p ∈ cs, ∃ more : Array Value, s'.heap.get? p.2 = some { cls := .none, data := .fields more } := fun p hp => by
        obtain ⟨more, z⟩ := un.tbls p.2 #[] (tabs _ (memT p hp))
        exact ⟨_, hok' p.2 _ z⟩
      refine ⟨rfl, ⟨fun b ob e => ?_, fun b ob e => ?_⟩, os, bare⟩
      · by_cases hb : b ∈ cs.map (·.2)
        · obtain ⟨p, hp, rfl⟩ := List.mem_map.mp hb
          obtain ⟨more, hm⟩ := grown p hp
          rw [hT p hp] at e
          cases e
          exact .inr (.inl ⟨((cd p hp).tab (hT p hp)).isCodeTable, rfl, #[], more, rfl, by rw [Array.empty_append]; exact hm⟩)
        · exact .inl (key b ob hb e)
      · by_cases hb : b ∈ cs.map (·.2)
        · obtain ⟨p, hp, rfl⟩ := List.mem_map.mp hb
          obtain ⟨more, hm⟩ := grown p hp
          exact ⟨_, hm⟩
        · exact ⟨ob, key b ob hb e⟩
    | next => exact z.elim
    | brk => exact z.elim
    | cont => exact z.elim
end
/-- what a law's module tells of the law's def -/
structure LawOk (K : PySem.W.Frag) (mg : Str → Option Value) (h : Heap) (name x : Str) (n : Nat) : Prop where
  sm : SysOk h
  ex : ∃ (cl : Md) (ds : List DefD) (G : Gt) (gl : Nat → D) (k : Nat) (d : DefD), Mdl K mg cl ds G gl ∧ ds[k]? = some d ∧ d.x = name ∧ d.cls = none ∧ d.ps = [x] ∧ d.lv ≤ 190 ∧
    (∀ p ∈ cl.cs, h.get? p.2 = some tab0) ∧ (∀ p ∈ cl.cs, K.lookup p.2 = none) ∧ (∀ p ∈ cl.cs, PySem.W.CodeHd h p.1 p.2) ∧ (∀ p ∈ cl.T, p.1 ∈ cl.cs.map (·.2)) ∧
    ∀ ns : List Int, ns.length ≤ n → ∃ h', dels ds gl (d.lv + 1) k [.fz (ns.map D.int)] [] = .ok (.bl true) h'
theorem room200 {k : Nat} (h : k ≤ 201) : Room k callerA := Room.mono (k := 201) ⟨rfl, by decide, by decide⟩ h
theorem walk_end {l : PySem.W.OpenLaw} {n : Nat} {q : Program} {loose : List Str} {XP : (Str → Option Value) → Heap → Prop} {YP : World → Heap → Prop} {d : DefRec} {x : Str}
    (hn : l.most = some n) (hn2 : n ≤ sizeLine) (hdf : d.params.defaults = [])
    (F : ∀ (w : World) (mg : Str → Option Value) (h : Heap), YP w h → h.Ns mainGlobals mg → ∃ K : PySem.W.Frag, K.In h ∧ LawOk K mg h d.name x n) :
    PySem.W.WalkO q loose XP YP l.row.toRowW d [] (fun f vs => PySem.call f vs) := by
  refine Att.attach_call hn hdf fun w s₀ s₁ mg mb fa o pm cd doc a vs ns G Y ho hd hcd hmg hobj hints hlen hg => ?_
  obtain ⟨K, KX, LO⟩ := F w mg _ Y G.T.g
  obtain ⟨cl, ds, Gt, gl, k, dd, M, e1, e2, e0, e3, e4, t1, t2, t3, t4, e5⟩ := LO.ex
  obtain ⟨f, fd, DO⟩ := M.defs k dd e1
  have ef : f = fa := by
    have z := DO.mgf e0
    rw [e2, hmg] at z
    cases z; rfl
  subst ef
  have hb : ∀ (s : Shared) (u : Value), BindsTo s fd ⟨[u], []⟩ [(x, u)] := fun s u => by
    have z := DO.bd s [u] (by rw [e3]; rfl)
    rw [e3] at z
    exact z
  refine call_end (cs := cl.cs) (sp := spF K cl (dels ds gl (dd.lv + 1) k)) KX G.T.g G.T.b G.T.builtins G.T.nolimit hg hobj hints (Nat.le_trans hlen hn2) (room200 (k := dd.lv + 1) (by omega)) t1 t2 t3 G.T.bmain LO.sm (fun base _ _ hT sy => ?_) hb fun H hH sq => ?_
  · obtain ⟨f', fd', DO', g'⟩ := defs_ok (P := l.prog) (w := w) (base := base) M sy hT (dd.lv + 1) k dd e1 (Nat.lt_succ_self _)
    have ef : f' = f := by
      have z := DO'.mgf e0
      rw [DO.mgf e0] at z
      cases z; rfl
    subst ef
    have efd : fd' = fd := by
      obtain ⟨_, _, _, _, _, _, _, _, _, _, l1, _⟩ := DO.fn.ex
      obtain ⟨_, _, _, _, _, _, _, _, _, _, l2, _⟩ := DO'.fn.ex
      rw [l1] at l2
      cases l2; rfl
    subst efd
    rw [e3] at g'
    exact g'
  · obtain ⟨h', eq⟩ := e5 ns hlen
    have tb : LamX.Tabs cl.T H := fun p hp => by
      obtain ⟨q, hq, e⟩ := List.mem_map.mp (t4 p hp)
      exact .nil (by rw [← e]; exact hH q hq)
    refine ⟨[], [], [.fz (ns.map D.int)], ⟨tb, rfl, List.nodup_nil, fun n c a z => by simp at z⟩, Rls.one (Rl.fz_iff.mpr ⟨a, _, rfl, sq, Rls.ints.mpr rfl⟩), ?_⟩
    rw [eq]
    exact fun μ' H' g v rv => Rl.bl_iff.mp rv
end HS

/-! From what a head's hook tells to the module's facts. -/
namespace HS
open PySem L2 PyProof.Rows
def fdOf (d : DefD) (kV doc pm : Value) (an : Option Addr) (cdv ct : Value) : FuncData := PySem.W.fnOf d.x d.qn (defArgs d.st) (defBody d.st) (defScope d.st) .none kV doc pm an cdv ct
/-- how a def's arguments bind -/
def BdOk (d : DefD) : Prop := ∀ (kV doc pm : Value) (an : Option Addr) (cdv ct : Value) (us : List Value), us.length = d.ps.length → bindArgs (fdOf d kV doc pm an cdv ct) ⟨us, []⟩ = pure (d.ps.zip us)
def KwD (d : DefD) (m : Nat) (nm : List Str) (idx : List Nat) : Prop := ∀ (kV doc pm : Value) (an : Option Addr) (cdv ct : Value) (us ws : List Value), us.length = m → ws.length = nm.length →
  bindArgs (fdOf d kV doc pm an cdv ct) ⟨us, nm.zip ws⟩ = pure (d.ps.zip (us ++ idx.map fun i => ws.getD i .none))
def AllBd : List DefD → Prop
  | [] => True
  | d :: ds => BdOk d ∧ AllBd ds
def AllKw (ds : List DefD) : List (Nat × Nat × List Str × List Nat) → Prop
  | [] => True
  | q :: qs => (∃ d, ds[q.1]? = some d ∧ KwD d q.2.1 q.2.2.1 q.2.2.2) ∧ AllKw ds qs
def AllCk (G : Gt) : List DefD → Prop
  | [] => True
  | d :: ds => ckD G d = true ∧ AllCk G ds
theorem AllBd.get : ∀ {ds : List DefD} {k : Nat} {d : DefD}, AllBd ds → ds[k]? = some d → BdOk d
  | _ :: _, 0, _, h, e => by cases e; exact h.1
  | _ :: _, k + 1, _, h, e => AllBd.get h.2 (show _ = _ from e)
theorem AllCk.get {G : Gt} : ∀ {ds : List DefD} {d : DefD}, AllCk G ds → d ∈ ds → ckD G d = true
  | x :: ds, d, h, e => by
    rcases List.mem_cons.mp e with rfl | e
    · exact h.1
    · exact AllCk.get h.2 e
theorem AllKw.get {ds : List DefD} : ∀ {qs : List (Nat × Nat × List Str × List Nat)} {k m : Nat} {nm : List Str} {idx : List Nat} {d : DefD}, AllKw ds qs → (k, m, nm, idx) ∈ qs → ds[k]? = some d → KwD d m nm idx
  | q :: qs, k, m, nm, idx, d, h, e, ed => by
    rcases List.mem_cons.mp e with rfl | e
    · obtain ⟨d', e1, h1⟩ := h.1
      rw [ed] at e1
      cases e1
      exact h1
    · exact AllKw.get h.2 e ed

/-! ### checks over the written part -/
mutual
/-- a constant as it stands written -/
def kdB (K : PySem.W.Frag) : D → Value → Bool
  | .non, .none => true
  | .bl b, .bool c => b == c
  | .int i, .int j _ => decide (i = j)
  | .str x, .str y _ => decide (x = y)
  | .tup xs, .ref a => match K.lookup a with
    | some ⟨.type c, _, .seq its _, _⟩ => decide (c = "tuple") && decide (its.size ≤ 16777216) && kdsB K xs its.toList
    | _ => false
  | _, _ => false
def kdsB (K : PySem.W.Frag) : List D → List Value → Bool
  | [], [] => true
  | d :: ds, u :: us => kdB K d u && kdsB K ds us
  | _, _ => false
end
mutual
theorem kdB_ok {K : PySem.W.Frag} {cl : Md} : ∀ (d : D) (u : Value), kdB K d u = true → ∃ v, RelV v u ∧ ∀ H μ, Rl K cl H μ d v
  | .non, u, h => by
    cases u <;> first | exact ⟨.non, rfl, fun _ _ => Rl.non_iff.mpr rfl⟩ | (simp [kdB] at h)
  | .bl b, u, h => by
    cases u <;> first | (simp only [kdB, beq_iff_eq] at h; subst h; exact ⟨.bl _, rfl, fun _ _ => Rl.bl_iff.mpr rfl⟩) | (simp [kdB] at h)
  | .int b, u, h => by
    cases u <;> first | (simp only [kdB, decide_eq_true_eq] at h; subst h; exact ⟨.int _, ⟨_, rfl⟩, fun _ _ => Rl.int_iff.mpr rfl⟩) | (simp [kdB] at h)
  | .str b, u, h => by
    cases u <;> first | (simp only [kdB, decide_eq_true_eq] at h; subst h; exact ⟨.str _, ⟨_, rfl⟩, fun _ _ => Rl.str_iff.mpr rfl⟩) | (simp [kdB] at h)
  | .tup xs, u, h => by
    cases u with
    | ref a =>
      simp only [kdB] at h
      split at h
      · rename_i c od its n sl e
        simp only [Bool.and_eq_true, decide_eq_true_eq] at h
        obtain ⟨⟨h1, h2⟩, h3⟩ := h
        obtain ⟨vs, r, q⟩ := kdsB_ok xs its.toList h3
        exact ⟨.ref a, rfl, fun H μ => Rl.tup_iff.mpr ⟨a, vs, rfl, .inr ⟨_, its, n, e, congrArg Value.type h1, rfl, h2, r⟩, q H μ⟩⟩
      · cases h
    | _ => simp [kdB] at h
  | .fz _, u, h => by simp [kdB] at h
  | .ref _, u, h => by simp [kdB] at h
  | .ty _, u, h => by simp [kdB] at h
  | .cls _, u, h => by simp [kdB] at h
theorem kdsB_ok {K : PySem.W.Frag} {cl : Md} : ∀ (ds : List D) (us : List Value), kdsB K ds us = true → ∃ vs, Vals vs us ∧ ∀ H μ, Rls K cl H μ ds vs
  | [], us, h => by
    cases us with
    | nil => exact ⟨[], .nil, fun _ _ => Rls.nil.mpr rfl⟩
    | cons _ _ => simp [kdsB] at h
  | d :: ds, us, h => by
    cases us with
    | nil => simp [kdsB] at h
    | cons u us =>
      simp only [kdsB, Bool.and_eq_true] at h
      obtain ⟨v, r, q⟩ := kdB_ok d u h.1
      obtain ⟨vs, rs, qs⟩ := kdsB_ok ds us h.2
      exact ⟨v :: vs, .cons r rs, fun H μ => Rls.cons.mpr ⟨v, vs, rfl, q H μ, qs H μ⟩⟩
end
def conB (K : PySem.W.Frag) : List Str → List D → Bool
  | [], _ => true
  | x :: xs, d :: ds => (match PySem.W.nsIn K mainGlobals x with
    | some (some u) => kdB K d u
    | _ => false) && conB K xs ds
  | _ :: _, [] => false
theorem conB_get {K : PySem.W.Frag} : ∀ {xs : List Str} {ds : List D} {k : Nat} {x : Str}, conB K xs ds = true → xs[k]? = some x → ∃ u, PySem.W.nsIn K mainGlobals x = some (some u) ∧ kdB K (ds.getD k .non) u = true
  | x :: xs, d :: ds, 0, _, h, e => by
    cases e
    simp only [conB, Bool.and_eq_true] at h
    obtain ⟨h1, _⟩ := h
    split at h1
    · rename_i u q
      exact ⟨u, q, h1⟩
    · cases h1
  | x :: xs, d :: ds, k + 1, _, h, e => by
    simp only [conB, Bool.and_eq_true] at h
    have := conB_get (k := k) h.2 (show _ = _ from e)
    simpa using this
  | x :: xs, [], _, _, h, _ => by simp [conB] at h
  | [], _, _, _, _, e => by simp at e
/-- a class of errors as it stands written -/
def excB (K : PySem.W.Frag) (a : Addr) : Bool :=
  He.eqO (PySem.W.findIn K (.ref a) "__getattribute__") (some (some (.builtin "BaseException.__getattribute__"))) && He.eqO (PySem.W.findIn K (.ref a) "__getattr__") (some none) && decide (PySem.W.subIn K (.ref a) (.type "BaseException") = some true) && PySem.W.hasDictIn K a &&
    He.eqO (PySem.W.findIn K (.ref a) "__class__") (some (some (.builtin "object.__class__"))) && He.eqO (PySem.W.specialIn K (.builtin "object.__class__") "__get__") (some (some (.builtin "getset_descriptor.__get__"))) && decide (PySem.W.takesIn K (.builtin "object.__class__") = some true) && decide (PySem.W.mroIn K a (.type "object") = some true)
theorem excB_ok {K : PySem.W.Frag} {a : Addr} (h : excB K a = true) : ExcC K a := by
  simp only [excB, Bool.and_eq_true, decide_eq_true_eq] at h
  obtain ⟨⟨⟨⟨⟨⟨⟨h1, h2⟩, h3⟩, h4⟩, h5⟩, h6⟩, h7⟩, h8⟩ := h
  exact ⟨He.eqO_ok h1, He.eqO_ok h2, h3, h4, He.eqO_ok h5, He.eqO_ok h6, h7, h8⟩
def clsB (K : PySem.W.Frag) (cs : List (Nat × Str)) : Bool := cs.all fun q => He.eqO (PySem.W.nsIn K mainGlobals q.2) (some (some (.ref (He.ga K q.2)))) && PySem.W.keepIn K (.ref (He.ga K q.2)) && decide (PySem.W.typeIn K (.ref (He.ga K q.2)) = some (.type "type")) && excB K (He.ga K q.2) &&
  cs.all fun r => decide (PySem.W.subIn K (.ref (He.ga K q.2)) (.ref (He.ga K r.2)) = some (subC q.1 r.1)) && decide (PySem.W.kitOne K (.ref (He.ga K q.2)) (.ref (He.ga K r.2)) = some (subC q.1 r.1))
def razB (K : PySem.W.Frag) (cs : List (Nat × Str)) (rs : List Nat) : Bool := rs.all fun k => match cs.lookup k with
  | some x => PySem.W.excIn K (He.ga K x) [.type "ValueError", .type "Exception", .type "BaseException", .type "object"] "ValueError.__new__"
  | none => false
def lams (ds : List DefD) : List Str := (ds.filter fun d => d.lam && d.cls.isNone).map (·.x)
def exB (ds : List DefD) (G : Gt) (gls : List D) (K : PySem.W.Frag) : Bool := conB K G.glb gls && clsB K G.cls && razB K G.cls G.raz && (!G.gcd || He.eqO (PySem.W.nsIn K mainGlobals "gcd") (some (some (.builtin "math.gcd")))) && decide ((lams ds).map fun x => (He.cT K (x, none)).2).Nodup
/-- a def of the evaluator as the hook looks for it -/
def DefD.at_ (d : DefD) : Str × Option Str := match d.cls with
  | none => (d.x, none)
  | some (_, C) => (C, some d.x)
def DefD.fa (d : DefD) : He.Fa := match d.cls with
  | none => .glo d.x
  | some (_, C) => .meth C d.x
def heD (d : DefD) : He.DefD := ⟨d.at_, d.x, d.qn, defArgs d.st, defBody d.st, defScope d.st, [], []⟩
/-- what is asked of the classes of instances -/
def insF (G : Gt) : List He.Fa := G.mks.flatMap fun q => [.glo q.2.2, .cls q.2.2, .mkr q.2.2] ++ G.ats.map (.noat q.2.2)
def heF (ds : List DefD) (G : Gt) : List He.Fa := ds.map DefD.fa ++ (G.blt.map .free ++ insF G)
/-- methods and makers are what they are told to be -/
def insG (ds : List DefD) (G : Gt) : Bool :=
  G.mts.all (fun q => match ds[q.1]? with
    | some d => (match d.cls with
      | some (k, _) => decide (k = q.2.1) && decide (d.x = q.2.2)
      | none => false)
    | none => false) &&
  G.mks.all (fun q => match ds[q.1]? with
    | some d => decide (d.cls = some (q.2.1, q.2.2)) && decide (d.x = "__init__")
    | none => false) &&
  ds.all (fun d => match d.cls with
    | none => true
    | some (k, C) => decide ((G.mks.map (·.2)).lookup k = some C))
def heT (ds : List DefD) : List He.Defn := (lams ds).map fun x => (x, none)
/-- the text of a def that tells of a call -/
def tdC (G : Gt) (d : DefD) (t : Tk) : Bool :=
  match t, d.N, d.ps, defBody d.st with
  | .rep k1 k2 s1 s2, [a, e], [a'], [.Try [.Return (some (.Call (.Name r _) [.Call (.Name a2 _) [] [] _] [] _)) _] [.ExceptHandler (some (.Name x1 _)) (some e2) [.Return (some (.IfExp (.Call (.Name i _) [.Name e3 _, .Name x2 _] [] _) (.Constant (.str t1) _ _) (.Constant (.str t2) _ _) _)) _] _] [] [] _] =>
    decide (a' = a) && decide (a2 = a) && decide (e2 = e) && decide (e3 = e) && decide (t1 = s1) && decide (t2 = s2) && decide (a ≠ e) && decide (r = "repr") && decide (i = "isinstance") && visB (defScope d.st) a && decide ((defScope d.st).names.lookup e = some .local) && gloB (defScope d.st) x1 && gloB (defScope d.st) x2 &&
      gloB (defScope d.st) "repr" && gloB (defScope d.st) "isinstance" && G.cls.any (fun q => decide (q.1 = k1) && decide (q.2 = x1)) && G.cls.any (fun q => decide (q.1 = k2) && decide (q.2 = x2)) && nameOk a && nameOk e && nameOk x1 && nameOk x2 && G.blt.any (fun w => decide (w = "repr")) && G.blt.any (fun w => decide (w = "isinstance"))
  | _, _, _, _ => false
/-- the text of a def that seeks between two whole numbers by a test -/
def nrC (G : Gt) (d : DefD) (kf : Nat) : Bool :=
  match d.N, d.ps, G.fns[kf]?, defBody d.st with
  | [n0, n1, n2, n3, n4, n5, n6], [m0, m1, m2, m3], some (xr, _, _), [.Assign [.Tuple [.Name a4 p4, .Name a5 p5] k1 p6] (.Tuple [.Name a1 p7, .Name a2 p8] k2 p9) _,
      .While (.Compare (.Name b4 _) [.Lt] [.Name b5 _] _)
        [.Assign [.Name b6 _] (.BinOp (.BinOp (.BinOp (.Name c4 _) .Add (.Name c5 _) _) .Add (.Constant (.int i1) _ _) _) .FloorDiv (.Constant (.int i2) _ _) _) _,
         .If (.Call (.Name b3 _) [.Call (.Name x _) [.Name c6 _, .Name b0 _] [] _] [] _) [.Assign [.Name d4 _] (.Name d6 _) _] [.Assign [.Name d5 _] (.BinOp (.Name f6 _) .Sub (.Constant (.int i3) _ _) _) _] _] [] _,
      .Return (some (.Name f4 _)) _] =>
    decide (x = xr) && decide (a4 = n4) && decide (a5 = n5) && decide (a1 = n1) && decide (a2 = n2) && decide (b4 = n4) && decide (b5 = n5) && decide (b6 = n6) && decide (c4 = n4) && decide (c5 = n5) && decide (i1 = 1) && decide (i2 = 2) && decide (b3 = n3) && decide (c6 = n6) && decide (b0 = n0) && decide (d4 = n4) && decide (d6 = n6) && decide (d5 = n5) && decide (f6 = n6) && decide (i3 = 1) && decide (f4 = n4) &&
      decide ([n0, n1, n2, n3, n4, n5, n6].Nodup) && [n0, n1, n2, n3, n4, n5, n6].all (fun y => decide ((defScope d.st).names.lookup y = some .local) && nameOk y) && gloB (defScope d.st) x && nameOk x && decide (swp (defScope d.st) [.Name a4 p4, .Name a5 p5] [.Name a1 p7, .Name a2 p8] = some (some [a4, a5]))
  | _, _, _, _ => false
def nrsC (ds : List DefD) (G : Gt) : Bool := G.nr.all fun q => ds.any fun d => decide (d.x = q.1) && scB d.N d.ps (defScope d.st) && nrC G d q.2 && d.cls.isNone
def tdsC (ds : List DefD) (G : Gt) : Bool := (G.td.all fun q => ds.any fun d => decide (d.x = q.1) && decide (d.ps.length = 1) && scB d.N d.ps (defScope d.st) && tdC G d q.2 && d.cls.isNone) && nrsC ds G
theorem cls_mem {G : Gt} {k : Nat} {x : Str} (h : G.cls.any (fun q => decide (q.1 = k) && decide (q.2 = x)) = true) : (k, x) ∈ G.cls := by
  rw [List.any_eq_true] at h
  obtain ⟨⟨a, b⟩, hq, h⟩ := h
  simp only [Bool.and_eq_true, decide_eq_true_eq] at h
  obtain ⟨e1, e2⟩ := h
  subst e1 e2
  exact hq
theorem lookup_of {k : Nat} {x : Str} : ∀ {l : List (Nat × Str)}, l.lookup k = some x → (k, x) ∈ l
  | [], h => by cases h
  | (a, b) :: l, h => by
    rw [List.lookup_cons] at h
    split at h
    · rename_i e
      cases h
      rw [beq_iff_eq.mp e]
      exact List.mem_cons_self
    · exact List.mem_cons_of_mem _ (lookup_of h)
/-- the classes' numbers are told once -/
def clsN (G : Gt) : Bool := decide (G.cls.map (·.1)).Nodup
theorem lookup_nd {k : Nat} {x : Str} : ∀ {l : List (Nat × Str)}, (l.map (·.1)).Nodup → (k, x) ∈ l → l.lookup k = some x
  | [], _, h => by cases h
  | (a, b) :: l, nd, h => by
    simp only [List.map_cons, List.nodup_cons] at nd
    rw [List.lookup_cons]
    rcases List.mem_cons.mp h with e | h2
    · cases e
      simp
    · have ne : (k == a) = false := by
        rw [beq_eq_false_iff_ne]
        intro z
        exact nd.1 (List.mem_map.mpr ⟨(k, x), h2, z⟩)
      rw [ne]
      exact lookup_nd nd.2 h2
/-- where the classes and the tables lie -/
def mdOf (ds : List DefD) (G : Gt) (K : PySem.W.Frag) : Md := ⟨fun k => (G.cls.lookup k).map (He.ga K), (lams ds).map fun x => ((He.cT K (x, none)).2, qLam x), (lams ds).map fun x => He.cT K (x, none), fun k => ((G.mks.map (·.2)).lookup k).map (He.ga K)⟩
theorem nodup_inj {K : PySem.W.Frag} : ∀ {l : List Str}, (l.map fun x => (He.cT K (x, none)).2).Nodup → ∀ x ∈ l, ∀ y ∈ l, (He.cT K (x, none)).2 = (He.cT K (y, none)).2 → x = y
  | [], _, x, hx, _, _, _ => by cases hx
  | a :: l, nd, x, hx, y, hy, e => by
    simp only [List.map_cons, List.nodup_cons] at nd
    rcases List.mem_cons.mp hx with h1 | h1
    · rcases List.mem_cons.mp hy with h2 | h2
      · rw [h1, h2]
      · rw [h1] at e
        exact absurd (List.mem_map.mpr ⟨y, h2, e.symm⟩) nd.1
    · rcases List.mem_cons.mp hy with h2 | h2
      · rw [h2] at e
        exact absurd (List.mem_map.mpr ⟨x, h1, e⟩) nd.1
      · exact nodup_inj nd.2 x h1 y h2 e
section
variable {K : PySem.W.Frag} {h : Heap} {mg : Str → Option Value} {ds : List DefD} {G : Gt} {gls : List D} {w : World}
theorem def_of (X : K.In h) (Gm : h.Ns mainGlobals mg) (c : He.SaysX (heF ds G) (ds.map heD) [] (heT ds) (exB ds G gls) w h K) (bd : AllBd ds) (kw : AllKw ds G.kws) (ins : insG ds G = true) {k : Nat} {d : DefD} (hd : ds[k]? = some d) : ∃ f fd, DefOk K mg (mdOf ds G K) G.kws k d f fd := by
  have cd := c.t.d
  obtain ⟨fd, F⟩ := cd.defs (d := heD d) (List.mem_map.mpr ⟨d, List.mem_of_getElem? hd, rfl⟩)
  have gl := cd.facts (f := d.fa) (List.mem_append_left _ (List.mem_map.mpr ⟨d, List.mem_of_getElem? hd, rfl⟩))
  have isf : ∀ {f : He.Fa}, f ∈ insF G → f.ok K = true := fun hf => cd.facts (List.mem_append_right _ (List.mem_append_right _ hf))
  obtain ⟨oc, od, dV, kV, doc, pm, an, cdv, ct, osl, e1, lk, ci, dv, _⟩ := F.ex
  have e2 : dV = .none := dv.elim (fun z => z.2) fun z => absurd rfl z.1
  subst e2
  have e1 : fd = fdOf d kV doc pm an cdv ct := e1
  have lk : K.lookup (He.fAd K d.at_) = some ⟨oc, od, .func fd, osl⟩ := lk
  refine ⟨He.fAd K d.at_, fd, ⟨⟨oc, od, kV, doc, pm, an, cdv, ct, osl, e1, lk, ci⟩, F.kp⟩, fun hc => ?_, fun j C hc => ?_, fun s us hl => .of_eq ?_, fun m nm idx hq s us ws h1 h2 => .of_eq ?_, fun hl => ?_⟩
  · have e3 : d.fa = .glo d.x := by unfold DefD.fa; rw [hc]
    have e4 : He.fAd K d.at_ = He.ga K d.x := by unfold DefD.at_; rw [hc]; rfl
    rw [e3] at gl
    rw [e4]
    exact He.glo_ok X Gm gl
  · have e3 : d.fa = .meth C d.x := by unfold DefD.fa; rw [hc]
    have e4 : He.fAd K d.at_ = He.ma K (He.ga K C) d.x := by unfold DefD.at_; rw [hc]; rfl
    rw [e3] at gl
    rw [e4]
    simp only [insG, Bool.and_eq_true] at ins
    have i3 := List.all_eq_true.mp ins.2 d (List.mem_of_getElem? hd)
    rw [hc] at i3
    have i3 : (G.mks.map (·.2)).lookup j = some C := of_decide_eq_true i3
    refine ⟨He.ga K C, by show ((G.mks.map (·.2)).lookup j).map (He.ga K) = _; rw [i3]; rfl, He.meth_ok gl, fun hx => ?_⟩
    obtain ⟨q, hq, eq⟩ := List.mem_map.mp (lookup_of i3)
    have eC : q.2.2 = C := by rw [eq]
    subst eC
    refine ⟨He.glo_ok X Gm (isf (List.mem_flatMap.mpr ⟨q, hq, by simp⟩)), ?_⟩
    rw [hx]
    exact He.mkr_ok (isf (List.mem_flatMap.mpr ⟨q, hq, by simp⟩))
  · rw [e1]; exact bd.get hd _ _ _ _ _ _ us hl
  · rw [e1]; exact kw.get hq hd _ _ _ _ _ _ us ws h1 h2
  · have hl0 := hl
    simp only [Bool.and_eq_true, Option.isNone_iff_eq_none] at hl
    have hc := hl.2
    have e4 : d.at_ = (d.x, none) := by unfold DefD.at_; rw [hc]
    have e5 : d.qn = d.x := by unfold DefD.qn; rw [hc]
    rw [e4] at lk
    obtain ⟨cc, hcc⟩ := He.codeIn_ref ci
    have mx : d.x ∈ lams ds := List.mem_map.mpr ⟨d, List.mem_filter.mpr ⟨List.mem_of_getElem? hd, hl0⟩, rfl⟩
    have ec : He.codeOf K (d.x, none) = cc := He.codeOf_eq lk (by rw [e1]; exact hcc)
    have ex := c.more
    simp only [exB, Bool.and_eq_true, decide_eq_true_eq] at ex
    refine ⟨cc, (He.cT K (d.x, none)).2, by rw [e1]; exact hcc, ?_, List.mem_map.mpr ⟨d.x, mx, by rw [e5]⟩, fun p hp he => ?_⟩
    · refine List.mem_map.mpr ⟨d.x, mx, ?_⟩
      show (He.codeOf K (d.x, none), He.tabOf K (He.codeOf K (d.x, none))) = (cc, He.tabOf K (He.codeOf K (d.x, none)))
      rw [ec]
    · obtain ⟨y, hy, rfl⟩ := List.mem_map.mp hp
      rw [nodup_inj ex.2 y hy d.x mx he, e5]
theorem cls_of (X : K.In h) (Gm : h.Ns mainGlobals mg) (ex : exB ds G gls K = true) (nd : clsN G = true) {q : Nat × Str} (hq : q ∈ G.cls) : ClsK K mg (mdOf ds G K) q.1 q.2 := by
  simp only [exB, Bool.and_eq_true] at ex
  have cb := List.all_eq_true.mp ex.1.1.1.2 q hq
  simp only [Bool.and_eq_true, decide_eq_true_eq] at cb
  obtain ⟨⟨⟨⟨c1, c2⟩, c3⟩, c4⟩, _⟩ := cb
  exact ⟨He.ga K q.2, by show (G.cls.lookup q.1).map _ = _; rw [lookup_nd (of_decide_eq_true nd) (show (q.1, q.2) ∈ G.cls from hq)]; rfl, PySem.W.mg_of X Gm (He.eqO_ok c1), c2, c3, excB_ok c4⟩
theorem mdl_of (X : K.In h) (Gm : h.Ns mainGlobals mg) (c : He.SaysX (heF ds G) (ds.map heD) [] (heT ds) (exB ds G gls) w h K) (fns : G.fns = ds.map fun d => (d.gn, d.ps.length, d.lv)) (ck : AllCk G ds) (bd : AllBd ds) (kw : AllKw ds G.kws) (nd : clsN G = true) (td : tdsC ds G = true) (ins : insG ds G = true) :
    Mdl K mg (mdOf ds G K) ds G (fun k => gls.getD k .non) := by
  unfold tdsC at td
  rw [Bool.and_eq_true] at td
  obtain ⟨td, nrs⟩ := td
  have ex := c.more
  have ex0 := ex
  simp only [exB, Bool.and_eq_true] at ex
  obtain ⟨⟨⟨⟨x1, x2⟩, x3⟩, x4⟩, x5⟩ := ex
  have no : ∀ x ∈ G.blt, mg x = none := fun x hx => He.free_ok X Gm (c.t.d.facts (f := .free x) (List.mem_append_right _ (List.mem_append_left _ (List.mem_map.mpr ⟨x, hx, rfl⟩))))
  have cls : ∀ q ∈ G.cls, ClsK K mg (mdOf ds G K) q.1 q.2 := fun q hq => cls_of X Gm ex0 nd hq
  have at_ : ∀ {k a}, (mdOf ds G K).c k = some a → ∃ x, (k, x) ∈ G.cls ∧ a = He.ga K x := fun {k a} e => by
    have e : (G.cls.lookup k).map (He.ga K) = some a := e
    cases q : G.cls.lookup k with
    | none => rw [q] at e; cases e
    | some x => rw [q] at e; cases e; exact ⟨x, lookup_of q, rfl⟩
  refine ⟨fns, fun d hd => ck.get hd, fun k d hd => def_of X Gm c bd kw ins hd, fun k x e => ?_, no, fun z => ?_, cls, fun k hk => ?_, ⟨fun k a e => ?_, fun k j a b e1 e2 => ?_⟩, fun q hq => ?_, fun q hq => ?_, fun k C e => ?_, fun q hq => ?_, fun q hq => ?_⟩
  · obtain ⟨u, e1, kd⟩ := conB_get x1 e
    obtain ⟨v, r, q⟩ := kdB_ok (cl := mdOf ds G K) _ _ kd
    exact ⟨v, u, PySem.W.mg_of X Gm e1, r, q⟩
  · rw [z] at x4
    exact PySem.W.mg_of X Gm (He.eqO_ok x4)
  · have z := List.all_eq_true.mp x3 k hk
    split at z
    · rename_i x q
      exact ⟨He.ga K x, by show (G.cls.lookup k).map _ = _; rw [q]; rfl, z⟩
    · cases z
  · obtain ⟨x, hx, rfl⟩ := at_ e
    obtain ⟨b, b1, _, _, _, b5⟩ := (cls _ hx).ex
    have b1 : (mdOf ds G K).c k = some b := b1
    rw [e] at b1
    cases b1
    exact b5
  · obtain ⟨x, hx, rfl⟩ := at_ e1
    obtain ⟨y, hy, rfl⟩ := at_ e2
    have cb := List.all_eq_true.mp x2 _ hx
    simp only [Bool.and_eq_true] at cb
    have cb := List.all_eq_true.mp cb.2 _ hy
    simp only [Bool.and_eq_true, decide_eq_true_eq] at cb
    exact cb
  · have z := List.all_eq_true.mp td q hq
    rw [List.any_eq_true] at z
    obtain ⟨d, hd, z⟩ := z
    simp only [Bool.and_eq_true, decide_eq_true_eq] at z
    obtain ⟨⟨⟨⟨z1, z2⟩, z3⟩, z4⟩, z5⟩ := z
    obtain ⟨k, hk⟩ := List.getElem?_of_mem hd
    obtain ⟨f, fd, DO⟩ := def_of (gls := gls) X Gm c bd kw ins hk
    have S := scB_ok z3
    have z5 : d.cls = none := Option.isNone_iff_eq_none.mp z5
    have F := DO.fn
    have e5 : d.qn = d.x := by unfold DefD.qn; rw [z5]
    rw [e5] at F
    have mgf := DO.mgf z5
    have hb := DO.bd
    rw [z1] at F mgf
    unfold tdC at z4
    split at z4
    · rename_i k1 k2 s1 s2 a e a' r p1 a2 p2 p3 p4 p5 x1' p6 e2 i p7 e3 p8 x2' p9 p10 t1 j1 p11 t2 j2 p12 p13 p14 p15 p16 et eN eP eB
      simp only [Bool.and_eq_true, decide_eq_true_eq] at z4
      obtain ⟨⟨⟨⟨⟨⟨⟨⟨⟨⟨⟨⟨⟨⟨⟨⟨⟨⟨⟨⟨⟨⟨y1, y2⟩, y3⟩, y4⟩, y5⟩, y6⟩, y7⟩, y8⟩, y9⟩, y10⟩, y11⟩, y12⟩, y13⟩, y14⟩, y15⟩, y16⟩, y17⟩, y18⟩, y19⟩, y20⟩, y21⟩, y22⟩, y23⟩ := z4
      subst y1 y2 y3 y4 y5 y6 y8 y9
      refine ⟨d.st, f, fd, d.N, a2, F, mgf, fun s us hl => ?_, by rw [← eP]; exact S, ?_⟩
      · have q := hb s us (by rw [eP]; exact hl)
        rw [eP] at q
        exact q
      · rw [et]
        exact ⟨e3, x1', x2', j1, j2, p1, p2, p3, p4, p5, p6, p7, p8, p9, p10, p11, p12, p13, p14, p15, p16, eB, eN, y7, visB_ok y10, y11, of_decide_eq_true y12, of_decide_eq_true y13, of_decide_eq_true y14, of_decide_eq_true y15, no _ (any_mem y22), no _ (any_mem y23), cls _ (cls_mem y16), cls _ (cls_mem y17),
          ⟨(nameOk_ok y18).1, (nameOk_ok y18).2.1⟩, ⟨(nameOk_ok y19).1, (nameOk_ok y19).2.1⟩, ⟨(nameOk_ok y20).1, (nameOk_ok y20).2.1⟩, ⟨(nameOk_ok y21).1, (nameOk_ok y21).2.1⟩⟩
    · cases z4
  · have z := List.all_eq_true.mp nrs q hq
    rw [List.any_eq_true] at z
    obtain ⟨d, hd, z⟩ := z
    simp only [Bool.and_eq_true, decide_eq_true_eq] at z
    obtain ⟨⟨⟨z1, z3⟩, z4⟩, z5⟩ := z
    obtain ⟨k, hk⟩ := List.getElem?_of_mem hd
    obtain ⟨f, fd, DO⟩ := def_of (gls := gls) X Gm c bd kw ins hk
    have S := scB_ok z3
    have z5 : d.cls = none := Option.isNone_iff_eq_none.mp z5
    have F := DO.fn
    have e5 : d.qn = d.x := by unfold DefD.qn; rw [z5]
    rw [e5] at F
    have mgf := DO.mgf z5
    have hb := DO.bd
    rw [z1] at F mgf
    unfold nrC at z4
    split at z4
    · rename_i n0 n1 n2 n3 n4 n5 n6 m0 m1 m2 m3 xr lv0 np0 a4 p4 a5 p5 k1 p6 a1 p7 a2 p8 k2 p9 p10 b4 p11 b5 p12 p13 b6 p14 c4 p15 c5 p16 p17 i1 k3 p18 p19 i2 k4 p20 p21 p22 b3 p23 x p24 c6 p25 b0 p26 p27 p28 d4 p29 d6 p30 p31 d5 p32 f6 p33 i3 k5 p34 p35 p36 p37 p38 f4 p39 p40 eN eP eF eB
      simp only [Bool.and_eq_true, decide_eq_true_eq] at z4
      obtain ⟨⟨⟨⟨⟨⟨⟨⟨⟨⟨⟨⟨⟨⟨⟨⟨⟨⟨⟨⟨⟨⟨⟨⟨⟨y1, y2⟩, y3⟩, y4⟩, y5⟩, y6⟩, y7⟩, y8⟩, y9⟩, y10⟩, y11⟩, y12⟩, y13⟩, y14⟩, y15⟩, y16⟩, y17⟩, y18⟩, y19⟩, y20⟩, y21⟩, y22⟩, y23⟩, y24⟩, y25⟩, y26⟩ := z4
      subst y1 y2 y3 y4 y5 y6 y7 y8 y9 y10 y11 y12 y13 y14 y15 y16 y17 y18 y19 y20 y21
      refine ⟨d.st, f, fd, d.N, d.ps, _, _, _, F, mgf, fun s us hl => hb s us (by rw [eP]; exact hl), by rw [eP]; rfl, S, eF, ⟨⟨_, _, _, _, _, _, _, "", 0, _, _, _, _, _, p4, p4, _, _, _, _, _, _, _, _, _, _, _, _, _, _, _, _, _, _, _, _, _, _, _, _, _, _, _, _, _, _, _, _, _, _, _, _, _, eB, eN, ?_, ?_, ?_, ?_, ?_⟩⟩⟩
      · rw [eN]; exact y22
      · intro y hy
        rw [eN] at hy
        have z := List.all_eq_true.mp y23 y hy
        simp only [Bool.and_eq_true, decide_eq_true_eq] at z
        exact ⟨z.1, (nameOk_ok z.2).1, (nameOk_ok z.2).2.1⟩
      · exact of_decide_eq_true y24
      · exact ⟨(nameOk_ok y25).1, (nameOk_ok y25).2.1⟩
      · intro env he
        exact swp_ok (by rw [he]; exact S.kind) (by rw [he]; exact y26)
    · cases z4
  · have e : ((G.mks.map (·.2)).lookup k).map (He.ga K) = some C := e
    cases q : (G.mks.map (·.2)).lookup k with
    | none => rw [q] at e; cases e
    | some x =>
      rw [q] at e
      cases e
      obtain ⟨r, hr, er⟩ := List.mem_map.mp (lookup_of q)
      have ex : r.2.2 = x := by rw [er]
      subst ex
      have isf : ∀ {f : He.Fa}, f ∈ insF G → f.ok K = true := fun hf => c.t.d.facts (List.mem_append_right _ (List.mem_append_right _ hf))
      exact ⟨He.cls_ok (isf (List.mem_flatMap.mpr ⟨r, hr, by simp⟩)), fun f hf => He.noat_ok (isf (List.mem_flatMap.mpr ⟨r, hr, List.mem_append_right _ (List.mem_map.mpr ⟨f, hf, rfl⟩)⟩))⟩
  · simp only [insG, Bool.and_eq_true] at ins
    have z := List.all_eq_true.mp ins.1.1 q hq
    split at z
    · rename_i d e
      split at z
      · rename_i j C hc
        simp only [Bool.and_eq_true, decide_eq_true_eq] at z
        exact ⟨d, C, e, by rw [hc, z.1], z.2⟩
      · cases z
    · cases z
  · simp only [insG, Bool.and_eq_true] at ins
    have z := List.all_eq_true.mp ins.1.2 q hq
    split at z
    · rename_i d e
      simp only [Bool.and_eq_true, decide_eq_true_eq] at z
      exact ⟨d, e, z.1, z.2⟩
    · cases z
/-- the law's module, by the hook -/
theorem law_of {k n : Nat} {d : DefD} {x : Str} (X : K.In h) (Gm : h.Ns mainGlobals mg) (c : He.SaysX (heF ds G) (ds.map heD) [] (heT ds) (exB ds G gls) w h K) (fns : G.fns = ds.map fun d => (d.gn, d.ps.length, d.lv)) (ck : AllCk G ds) (bd : AllBd ds) (kw : AllKw ds G.kws) (nd : clsN G = true) (td : tdsC ds G = true) (ins : insG ds G = true) (sm : SysOk h)
    (hd : ds[k]? = some d) (hc : d.cls = none) (hp : d.ps = [x]) (hl : d.lv ≤ 190) (pl : ∀ ns : List Int, ns.length ≤ n → ∃ h', dels ds (fun k => gls.getD k .non) (d.lv + 1) k [.fz (ns.map D.int)] [] = .ok (.bl true) h') : LawOk K mg h d.x x n := by
  have mT : ∀ p ∈ (mdOf ds G K).cs, ∃ q ∈ heT ds, p = He.cT K q := fun p hp => by
    obtain ⟨y, hy, rfl⟩ := List.mem_map.mp hp
    exact ⟨(y, none), List.mem_map.mpr ⟨y, hy, rfl⟩, rfl⟩
  refine ⟨sm, mdOf ds G K, ds, G, _, k, d, mdl_of X Gm c fns ck bd kw nd td ins, hd, rfl, hc, hp, hl, fun p hp => ?_, fun p hp => ?_, fun p hp => ?_, fun p hp => ?_, pl⟩
  · obtain ⟨q, hq, rfl⟩ := mT p hp
    exact c.empty q hq
  · obtain ⟨q, hq, rfl⟩ := mT p hp
    exact c.out q hq
  · obtain ⟨q, hq, rfl⟩ := mT p hp
    exact PySem.W.codeHd_of_K X (c.hd q hq)
  · obtain ⟨y, hy, rfl⟩ := List.mem_map.mp hp
    exact List.mem_map.mpr ⟨_, List.mem_map.mpr ⟨y, hy, rfl⟩, rfl⟩
end
/-! ### the hook: He.hookX, and sys.modules is a dict -/
def smB (g : Addr → Option Obj) : Bool := match g sysModules with
  | some ⟨_, _, .dict _ _, _⟩ => true
  | _ => false
theorem smB_ok {h : Heap} (e : smB h.get? = true) : SysOk h := by
  unfold smB at e
  split at e
  · rename_i c d es n sl q
    exact ⟨_, es, n, q, rfl⟩
  · cases e
def obsY (n : Nat) (fa : List He.Fa) (fn : List He.DefD) (ts : List He.Tab) (tf : List He.Defn) (ex : PySem.W.Frag → Bool) (g : Addr → Option Obj) : He.AlX × Bool := (He.obsX n fa fn ts tf ex g, smB g)
def hookY (n : Nat) (fa : List He.Fa) (fn : List He.DefD) (ts : List He.Tab) (tf : List He.Defn) (ex : PySem.W.Frag → Bool) : PySem.W.Hook where
  α := He.AlX × Bool
  obs := fun s => obsY n fa fn ts tf ex s.heap.get?
  val := fun w => (He.valX fn ts w, true)
  says := fun w h => (∃ K : PySem.W.Frag, K.In h ∧ He.SaysX fa fn ts tf ex w h K) ∧ SysOk h
  of := fun w s e => ⟨⟨_, He.frT_in, He.saysX_of (congrArg (fun z : He.AlX × Bool => z.1) e)⟩, smB_ok (congrArg (fun z : He.AlX × Bool => z.2) e)⟩
  keeps := fun w h h' x k => ⟨(He.hookX n fa fn ts tf ex).keeps w h h' x.1 k, let ⟨o, es, m, e1, e2⟩ := x.2; ⟨o, es, m, k _ _ e1, e2⟩⟩
theorem obsY_eq {n : Nat} {fa : List He.Fa} {fn : List He.DefD} {ts : List He.Tab} {tf : List He.Defn} {ex : PySem.W.Frag → Bool} {g : Addr → Option Obj} {s : Shared} (h : ∀ a, g a = s.heap.get? a) : obsY n fa fn ts tf ex g = (hookY n fa fn ts tf ex).obs s := by
  have e : g = s.heap.get? := funext h
  rw [e] <;> rfl
end HS

namespace K07
open PySem HS
def top (i : Nat) : Stmt := PySem.Challenge.pw_homesteps_k07_whole_worths_and_slopes.main.body.getD i (.Pass ⟨0, 0, 0, 0⟩)
def mtop (i j : Nat) : Stmt := match top i with
  | .ClassDef _ _ _ body _ _ _ _ _ _ _ => body.getD j (.Pass ⟨0, 0, 0, 0⟩)
  | s => s
def b_is_whole : Ss :=
  (.cons (.ret (.and (.isi (.var 0) (.b "int")) (.not (.isi (.var 0) (.b "bool"))))) .nil)
def d_is_whole : DefD := ⟨"is_whole", top 6, ["value"], ["value"], 0, ⟨1, 1, b_is_whole⟩, false, none⟩
def b_are_wholes : Ss :=
  (.cons (.ret (.and (.isi (.var 0) (.b "tuple")) (.and (.cmp .Eq (.blt .len (.cons (.var 0) .nil)) (.var 1)) (.blt .all (.cons (.lc (.call 0 (.cons (.var 2) .nil)) (.nm 2) (.pln (.var 0)) .no [2]) .nil))))) .nil)
def d_are_wholes : DefD := ⟨"are_wholes", top 7, ["value", "many", "number"], ["value", "many"], 1, ⟨2, 3, b_are_wholes⟩, false, none⟩
def b_divisor_of : Ss :=
  (.cons (.asg (.nm 1) (.int 0)) 
  (.cons (.fr (.nm 2) (.pln (.var 0)) (
    (.cons (.asg (.nm 1) (.blt .gcd (.cons (.var 1) (.cons (.var 2) .nil)))) .nil))) 
  (.cons (.ret (.var 1)) .nil)))
def d_divisor_of : DefD := ⟨"divisor_of", top 8, ["numbers", "found", "number"], ["numbers"], 0, ⟨1, 3, b_divisor_of⟩, false, none⟩
def b_is_reduced : Ss :=
  (.cons (.ret (.cmp .Eq (.call 2 (.cons (.var 0) .nil)) (.int 1))) .nil)
def d_is_reduced : DefD := ⟨"is_reduced", top 9, ["numbers"], ["numbers"], 1, ⟨1, 1, b_is_reduced⟩, false, none⟩
def b_is_ratio : Ss :=
  (.cons (.ret (.and (.call 1 (.cons (.var 0) (.cons (.int 2) .nil))) (.and (.cmp .Gt (.idx (.var 0) (.int 1)) (.int 0)) (.call 3 (.cons (.var 0) .nil))))) .nil)
def d_is_ratio : DefD := ⟨"is_ratio", top 13, ["value"], ["value"], 2, ⟨1, 1, b_is_ratio⟩, false, none⟩
def b_ratio_with : Ss :=
  (.cons (.asg (.nm 2) (.call 2 (.cons (.tup (.cons (.var 0) (.cons (.var 1) .nil))) .nil))) 
  (.cons (.asg (.nm 2) (.ife (.cmp .Gt (.var 1) (.int 0)) (.var 2) (.neg (.var 2)))) 
  (.cons (.ret (.tup (.cons (.bin .fdiv (.var 0) (.var 2)) (.cons (.bin .fdiv (.var 1) (.var 2)) .nil)))) .nil)))
def d_ratio_with : DefD := ⟨"ratio_with", top 14, ["number", "under", "part"], ["number", "under"], 1, ⟨2, 3, b_ratio_with⟩, false, none⟩
def b_ratio_sum : Ss :=
  (.cons (.ret (.call 5 (.cons (.bin .add (.bin .mul (.idx (.var 0) (.int 0)) (.idx (.var 1) (.int 1))) (.bin .mul (.idx (.var 1) (.int 0)) (.idx (.var 0) (.int 1)))) (.cons (.bin .mul (.idx (.var 0) (.int 1)) (.idx (.var 1) (.int 1))) .nil)))) .nil)
def d_ratio_sum : DefD := ⟨"ratio_sum", top 15, ["one", "two"], ["one", "two"], 2, ⟨2, 2, b_ratio_sum⟩, false, none⟩
def b_ratio_product : Ss :=
  (.cons (.ret (.call 5 (.cons (.bin .mul (.idx (.var 0) (.int 0)) (.idx (.var 1) (.int 0))) (.cons (.bin .mul (.idx (.var 0) (.int 1)) (.idx (.var 1) (.int 1))) .nil)))) .nil)
def d_ratio_product : DefD := ⟨"ratio_product", top 16, ["one", "two"], ["one", "two"], 2, ⟨2, 2, b_ratio_product⟩, false, none⟩
def b_are_ratios : Ss :=
  (.cons (.ret (.and (.isi (.var 0) (.b "tuple")) (.blt .all (.cons (.lc (.call 4 (.cons (.var 1) .nil)) (.nm 1) (.pln (.var 0)) .no [1]) .nil)))) .nil)
def d_are_ratios : DefD := ⟨"are_ratios", top 18, ["value", "number"], ["value"], 3, ⟨1, 2, b_are_ratios⟩, false, none⟩
def b_is_term : Ss :=
  (.cons (.ife (.or (.not (.isi (.var 0) (.b "tuple"))) (.or (.cmp .NotEq (.blt .len (.cons (.var 0) .nil)) (.int 2)) (.not (.call 1 (.cons (.idx (.var 0) (.int 0)) (.cons (.var 1) .nil)))))) (
    (.cons (.ret (.bl false)) .nil)) (.nil)) 
  (.cons (.ife (.or (.cmp .Lt (.blt .min (.cons (.idx (.var 0) (.int 0)) .nil)) (.int 0)) (.cmp .Gt (.blt .sum (.cons (.idx (.var 0) (.int 0)) .nil)) (.glb 0))) (
    (.cons (.ret (.bl false)) .nil)) (.nil)) 
  (.cons (.ret (.and (.call 4 (.cons (.idx (.var 0) (.int 1)) .nil)) (.cmp .NotEq (.idx (.var 0) (.int 1)) (.glb 1)))) .nil)))
def d_is_term : DefD := ⟨"is_term", top 22, ["value", "many"], ["value", "many"], 3, ⟨2, 2, b_is_term⟩, false, none⟩
def b_is_form : Ss :=
  (.cons (.ife (.or (.not (.isi (.var 0) (.b "tuple"))) (.not (.blt .all (.cons (.lc (.call 9 (.cons (.var 2) (.cons (.var 1) .nil))) (.nm 2) (.pln (.var 0)) .no [2]) .nil)))) (
    (.cons (.ret (.bl false)) .nil)) (.nil)) 
  (.cons (.ret (.blt .all (.cons (.lc (.cmp .Lt (.idx (.var 3) (.int 0)) (.idx (.var 4) (.int 0))) (.tup (.cons (.nm 3) (.cons (.nm 4) .nil))) (.zip (.var 0) (.slc (.var 0) (.so (.int 1)) .no)) .no [3, 4]) .nil))) .nil))
def d_is_form : DefD := ⟨"is_form", top 23, ["value", "many", "term", "one", "two"], ["value", "many"], 4, ⟨2, 5, b_is_form⟩, false, none⟩
def b_is_formed : Ss :=
  (.cons (.ife (.or (.not (.isi (.var 0) (.b "tuple"))) (.not (.cmp2 .LtE .LtE (.int 1) (.blt .len (.cons (.var 0) .nil)) (.glb 2)))) (
    (.cons (.ret (.bl false)) .nil)) (.nil)) 
  (.cons (.ret (.blt .all (.cons (.lc (.call 10 (.cons (.var 1) (.cons (.blt .len (.cons (.var 0) .nil)) .nil))) (.nm 1) (.pln (.var 0)) .no [1]) .nil))) .nil))
def d_is_formed : DefD := ⟨"is_formed", top 24, ["value", "form"], ["value"], 5, ⟨1, 2, b_is_formed⟩, false, none⟩
def b_is_spot : Ss :=
  (.cons (.ret (.and (.call 8 (.cons (.var 1) .nil)) (.cmp .Eq (.blt .len (.cons (.var 1) .nil)) (.blt .len (.cons (.var 0) .nil))))) .nil)
def d_is_spot : DefD := ⟨"is_spot", top 25, ["system", "value"], ["system", "value"], 4, ⟨2, 2, b_is_spot⟩, false, none⟩
def b_check_system : Ss :=
  (.cons (.ife (.not (.call 11 (.cons (.var 0) .nil))) (
    (.cons .never .nil)) (.nil)) .nil)
def d_check_system : DefD := ⟨"check_system", top 26, ["value"], ["value"], 6, ⟨1, 1, b_check_system⟩, false, none⟩
def b_check_place : Ss :=
  (.cons (.ife (.not (.call 12 (.cons (.var 0) (.cons (.var 1) .nil)))) (
    (.cons .never .nil)) (.nil)) .nil)
def d_check_place : DefD := ⟨"check_place", top 27, ["system", "value"], ["system", "value"], 5, ⟨2, 2, b_check_place⟩, false, none⟩
def b_form_with : Ss :=
  (.cons (.asg (.nm 1) .dicT) 
  (.cons (.fr (.tup (.cons (.nm 2) (.cons (.nm 3) .nil))) (.pln (.var 0)) (
    (.cons (.dput (.var 1) (.var 2) (.call 6 (.cons (.dget (.var 1) (.var 2) (.glb 1)) (.cons (.var 3) .nil)))) .nil))) 
  (.cons (.ret (.blt .tuple (.cons (.lc (.tup (.cons (.var 2) (.cons (.dix (.var 1) (.var 2)) .nil))) (.nm 2) (.pln (.blt .sorted (.cons (.var 1) .nil))) (.so (.cmp .NotEq (.dix (.var 1) (.var 2)) (.glb 1))) [2]) .nil))) .nil)))
def d_form_with : DefD := ⟨"form_with", top 28, ["terms", "found", "powers", "number"], ["terms"], 3, ⟨1, 4, b_form_with⟩, false, none⟩
def b_raised_ratio : Ss :=
  (.cons (.asg (.nm 2) (.glb 3)) 
  (.cons (.fr (.nm 3) (.rng (.cons (.var 1) .nil)) (
    (.cons (.asg (.nm 2) (.call 7 (.cons (.var 2) (.cons (.var 0) .nil)))) .nil))) 
  (.cons (.ret (.var 2)) .nil)))
def d_raised_ratio : DefD := ⟨"raised_ratio", top 29, ["number", "power", "found", "step"], ["number", "power"], 3, ⟨2, 4, b_raised_ratio⟩, false, none⟩
def b_worth_of_form : Ss :=
  (.cons (.asg (.nm 2) (.glb 1)) 
  (.cons (.fr (.tup (.cons (.nm 3) (.cons (.nm 4) .nil))) (.pln (.var 0)) (
    (.cons (.fr (.tup (.cons (.nm 5) (.cons (.nm 6) .nil))) (.zip (.var 3) (.var 1)) (
      (.cons (.asg (.nm 4) (.call 7 (.cons (.var 4) (.cons (.call 16 (.cons (.var 6) (.cons (.var 5) .nil))) .nil)))) .nil))) 
    (.cons (.asg (.nm 2) (.call 6 (.cons (.var 2) (.cons (.var 4) .nil)))) .nil)))) 
  (.cons (.ret (.var 2)) .nil)))
def d_worth_of_form : DefD := ⟨"worth_of_form", top 30, ["form", "place", "found", "powers", "number", "power", "unknown"], ["form", "place"], 4, ⟨2, 7, b_worth_of_form⟩, false, none⟩
def b_worths_of : Ss :=
  (.cons (.ret (.blt .tuple (.cons (.lc (.call 17 (.cons (.var 2) (.cons (.var 1) .nil))) (.nm 2) (.pln (.var 0)) .no [2]) .nil))) .nil)
def d_worths_of : DefD := ⟨"worths_of", top 31, ["system", "place", "form"], ["system", "place"], 5, ⟨2, 3, b_worths_of⟩, false, none⟩
def b_grown_form : Ss :=
  (.cons (.asg (.nm 2) (.lst .nil)) 
  (.cons (.fr (.tup (.cons (.nm 3) (.cons (.nm 4) .nil))) (.pln (.var 0)) (
    (.cons (.asg (.nm 5) (.idx (.var 3) (.var 1))) 
    (.cons (.ife (.cmp .Gt (.var 5) (.int 0)) (
      (.cons (.asg (.nm 6) (.bin .add (.bin .add (.slc (.var 3) .no (.so (.var 1))) (.tup (.cons (.bin .sub (.var 5) (.int 1)) .nil))) (.slc (.var 3) (.so (.bin .add (.var 1) (.int 1))) .no))) 
      (.cons (.exp (.app (.var 2) (.tup (.cons (.var 6) (.cons (.call 7 (.cons (.var 4) (.cons (.tup (.cons (.var 5) (.cons (.int 1) .nil))) .nil))) .nil))))) .nil))) (.nil)) .nil)))) 
  (.cons (.ret (.call 15 (.cons (.var 2) .nil))) .nil)))
def d_grown_form : DefD := ⟨"grown_form", top 32, ["form", "unknown", "terms", "powers", "number", "power", "less"], ["form", "unknown"], 4, ⟨2, 7, b_grown_form⟩, false, none⟩
def b_slopes_of : Ss :=
  (.cons (.asg (.nm 2) (.blt .range (.cons (.blt .len (.cons (.var 0) .nil)) .nil))) 
  (.cons (.ret (.blt .tuple (.cons (.lc (.blt .tuple (.cons (.lc (.call 17 (.cons (.call 19 (.cons (.var 4) (.cons (.var 3) .nil))) (.cons (.var 1) .nil))) (.nm 3) (.rgv (.var 2)) .no [3]) .nil)) (.nm 4) (.pln (.var 0)) .no [4]) .nil))) .nil))
def d_slopes_of : DefD := ⟨"slopes_of", top 33, ["system", "place", "unknowns", "unknown", "form"], ["system", "place"], 5, ⟨2, 5, b_slopes_of⟩, false, none⟩
def b_worth : Ss :=
  (.cons (.exp (.call 13 (.cons (.var 0) .nil))) 
  (.cons (.exp (.call 14 (.cons (.var 0) (.cons (.var 1) .nil)))) 
  (.cons (.ret (.call 18 (.cons (.var 0) (.cons (.var 1) .nil)))) .nil)))
def d_worth : DefD := ⟨"worth", top 35, ["system", "place"], ["system", "place"], 7, ⟨2, 2, b_worth⟩, false, none⟩
def b_slopes : Ss :=
  (.cons (.exp (.call 13 (.cons (.var 0) .nil))) 
  (.cons (.exp (.call 14 (.cons (.var 0) (.cons (.var 1) .nil)))) 
  (.cons (.ret (.call 20 (.cons (.var 0) (.cons (.var 1) .nil)))) .nil)))
def d_slopes : DefD := ⟨"slopes", top 36, ["system", "place"], ["system", "place"], 7, ⟨2, 2, b_slopes⟩, false, none⟩
def b_law_sack : Ss :=
  (.cons (.asg (.tup (.cons (.nm 2) (.cons (.nm 3) .nil))) (.tup (.cons (.bin .add (.int 70001) (.bin .mul (.int 5003) (.var 1))) (.cons (.bin .add (.int 40009) (.bin .mul (.int 7) (.var 1))) .nil)))) 
  (.cons (.fr (.nm 4) (.pln (.slc (.var 0) .no (.so (.int 12)))) (
    (.cons (.asg (.nm 2) (.bin .mod (.blt .int (.cons (.bin .add (.bin .add (.bin .mul (.var 2) (.int 48611)) (.blt .int (.cons (.var 4) .nil))) (.int 29)) .nil)) (.int 2147483587))) 
    (.cons (.asg (.nm 3) (.bin .mod (.blt .int (.cons (.bin .add (.bin .add (.bin .mul (.var 3) (.int 30011)) (.bin .mod (.blt .int (.cons (.var 4) .nil)) (.int 1999999973))) (.bin .fdiv (.var 2) (.int 16))) .nil)) (.int 1999999973))) .nil)))) 
  (.cons (.asg (.nm 5) (.ife (.cmp .Lt (.var 1) (.blt .len (.cons (.var 0) .nil))) (.blt .abs (.cons (.blt .int (.cons (.idx (.var 0) (.var 1)) .nil)) .nil)) (.int 0))) 
  (.cons (.ret (.lst (.cons (.ife (.cmp .GtE (.var 5) (.bin .pow (.int 10) (.int 18))) (.var 5) (.int 0)) (.cons (.bin .mod (.blt .int (.cons (.bin .add (.var 2) (.bin .mul (.bin .mod (.blt .int (.cons (.var 5) .nil)) (.int 2147483587)) (.int 6911))) .nil)) (.int 2147483587)) (.cons (.var 3) .nil))))) .nil))))
def d_law_sack : DefD := ⟨"_law_sack", top 38, ["script", "turn", "blend", "other", "cell", "own"], ["script", "turn"], 0, ⟨2, 6, b_law_sack⟩, false, none⟩
def b_law_pull : Ss :=
  (.cons (.ife (.cmp .Gt (.idx (.var 0) (.int 0)) (.int 0)) (
    (.cons (.asg (.tup (.cons (.sub (.var 0) (.int 0)) (.cons (.nm 2) .nil))) (.blt .divmod (.cons (.idx (.var 0) (.int 0)) (.cons (.var 1) .nil)))) 
    (.cons (.ret (.var 2)) .nil))) (.nil)) 
  (.cons (.asg (.sub (.var 0) (.int 2)) (.bin .mod (.blt .int (.cons (.bin .add (.bin .mul (.idx (.var 0) (.int 2)) (.int 69069)) (.int 7)) .nil)) (.int 1999999973))) 
  (.cons (.asg (.sub (.var 0) (.int 1)) (.bin .mod (.blt .int (.cons (.bin .add (.bin .add (.bin .mul (.idx (.var 0) (.int 1)) (.int 40503)) (.bin .fdiv (.idx (.var 0) (.int 2)) (.int 8))) (.int 1)) .nil)) (.int 2147483587))) 
  (.cons (.ret (.bin .mod (.blt .int (.cons (.bin .add (.bin .fdiv (.idx (.var 0) (.int 1)) (.int 64)) (.bin .fdiv (.idx (.var 0) (.int 2)) (.int 128))) .nil)) (.var 1))) .nil))))
def d_law_pull : DefD := ⟨"_law_pull", top 39, ["sack", "many", "digit"], ["sack", "many"], 0, ⟨2, 3, b_law_pull⟩, false, none⟩
def b_law_f : Ss :=
  (.cons (.ife (.cmp .Lt (.var 1) (.int 0)) (
    (.cons (.asg (.tup (.cons (.nm 0) (.cons (.nm 1) .nil))) (.tup (.cons (.neg (.var 0)) (.cons (.neg (.var 1)) .nil)))) .nil)) (.nil)) 
  (.cons (.asg (.tup (.cons (.nm 2) (.cons (.nm 3) .nil))) (.tup (.cons (.blt .abs (.cons (.var 0) .nil)) (.cons (.var 1) .nil)))) 
  (.cons (.whl (.cmp .Gt (.var 3) (.int 0)) (
    (.cons (.asg (.tup (.cons (.nm 2) (.cons (.nm 3) .nil))) (.tup (.cons (.var 3) (.cons (.bin .mod (.blt .int (.cons (.var 2) .nil)) (.var 3)) .nil)))) .nil))) 
  (.cons (.ret (.tup (.cons (.bin .fdiv (.var 0) (.var 2)) (.cons (.bin .fdiv (.var 1) (.var 2)) .nil)))) .nil))))
def d_law_f : DefD := ⟨"_law_f", top 40, ["upper", "lower", "one", "two"], ["upper", "lower"], 0, ⟨2, 4, b_law_f⟩, false, none⟩
def b_law_plus : Ss :=
  (.cons (.ret (.call 25 (.cons (.bin .add (.bin .mul (.idx (.var 0) (.int 0)) (.idx (.var 1) (.int 1))) (.bin .mul (.idx (.var 1) (.int 0)) (.idx (.var 0) (.int 1)))) (.cons (.bin .mul (.idx (.var 0) (.int 1)) (.idx (.var 1) (.int 1))) .nil)))) .nil)
def d_law_plus : DefD := ⟨"_law_plus", top 41, ["one", "two"], ["one", "two"], 1, ⟨2, 2, b_law_plus⟩, false, none⟩
def b_law_times : Ss :=
  (.cons (.ret (.call 25 (.cons (.bin .mul (.idx (.var 0) (.int 0)) (.idx (.var 1) (.int 0))) (.cons (.bin .mul (.idx (.var 0) (.int 1)) (.idx (.var 1) (.int 1))) .nil)))) .nil)
def d_law_times : DefD := ⟨"_law_times", top 42, ["one", "two"], ["one", "two"], 1, ⟨2, 2, b_law_times⟩, false, none⟩
def b_law_raised : Ss :=
  (.cons (.asg (.nm 2) (.tup (.cons (.int 1) (.cons (.int 1) .nil)))) 
  (.cons (.fr (.nm 3) (.rng (.cons (.var 1) .nil)) (
    (.cons (.asg (.nm 2) (.call 27 (.cons (.var 2) (.cons (.var 0) .nil)))) .nil))) 
  (.cons (.ret (.var 2)) .nil)))
def d_law_raised : DefD := ⟨"_law_raised", top 43, ["number", "many", "found", "turn"], ["number", "many"], 2, ⟨2, 4, b_law_raised⟩, false, none⟩
def b_law_term_worth : Ss :=
  (.cons (.asg (.nm 2) (.idx (.var 0) (.int 1))) 
  (.cons (.fr (.tup (.cons (.nm 3) (.cons (.nm 4) .nil))) (.zip (.idx (.var 0) (.int 0)) (.var 1)) (
    (.cons (.asg (.nm 2) (.call 27 (.cons (.var 2) (.cons (.call 28 (.cons (.var 4) (.cons (.var 3) .nil))) .nil)))) .nil))) 
  (.cons (.ret (.var 2)) .nil)))
def d_law_term_worth : DefD := ⟨"_law_term_worth", top 44, ["term", "place", "found", "many", "number"], ["term", "place"], 3, ⟨2, 5, b_law_term_worth⟩, false, none⟩
def b_law_worth : Ss :=
  (.cons (.asg (.nm 2) (.tup (.cons (.int 0) (.cons (.int 1) .nil)))) 
  (.cons (.fr (.nm 3) (.pln (.var 0)) (
    (.cons (.asg (.nm 2) (.call 26 (.cons (.var 2) (.cons (.call 29 (.cons (.var 3) (.cons (.var 1) .nil))) .nil)))) .nil))) 
  (.cons (.ret (.var 2)) .nil)))
def d_law_worth : DefD := ⟨"_law_worth", top 45, ["form", "place", "found", "term"], ["form", "place"], 4, ⟨2, 4, b_law_worth⟩, false, none⟩
def b_law_slope : Ss :=
  (.cons (.asg (.nm 3) (.tup (.cons (.int 0) (.cons (.int 1) .nil)))) 
  (.cons (.fr (.tup (.cons (.nm 4) (.cons (.nm 5) .nil))) (.pln (.var 0)) (
    (.cons (.ife (.cmp .Gt (.idx (.var 4) (.var 2)) (.int 0)) (
      (.cons (.asg (.nm 6) (.bin .add (.bin .add (.slc (.var 4) .no (.so (.var 2))) (.tup (.cons (.bin .sub (.idx (.var 4) (.var 2)) (.int 1)) .nil))) (.slc (.var 4) (.so (.bin .add (.var 2) (.int 1))) .no))) 
      (.cons (.asg (.nm 3) (.call 26 (.cons (.var 3) (.cons (.call 29 (.cons (.tup (.cons (.var 6) (.cons (.call 27 (.cons (.var 5) (.cons (.tup (.cons (.idx (.var 4) (.var 2)) (.cons (.int 1) .nil))) .nil))) .nil))) (.cons (.var 1) .nil))) .nil)))) .nil))) (.nil)) .nil))) 
  (.cons (.ret (.var 3)) .nil)))
def d_law_slope : DefD := ⟨"_law_slope", top 46, ["form", "place", "at", "found", "powers", "number", "less"], ["form", "place", "at"], 4, ⟨3, 7, b_law_slope⟩, false, none⟩
def b_law_slopes : Ss :=
  (.cons (.ret (.blt .tuple (.cons (.lc (.blt .tuple (.cons (.lc (.call 31 (.cons (.var 3) (.cons (.var 1) (.cons (.var 2) .nil)))) (.nm 2) (.rng (.cons (.blt .len (.cons (.var 0) .nil)) .nil)) .no [2]) .nil)) (.nm 3) (.pln (.var 0)) .no [3]) .nil))) .nil)
def d_law_slopes : DefD := ⟨"_law_slopes", top 47, ["system", "place", "at", "form"], ["system", "place"], 5, ⟨2, 4, b_law_slopes⟩, false, none⟩
def b_law_gathered : Ss :=
  (.cons (.asg (.nm 1) (.lst .nil)) 
  (.cons (.fr (.tup (.cons (.nm 2) (.cons (.nm 3) .nil))) (.pln (.var 0)) (
    (.cons (.asg (.nm 4) (.lc (.var 5) (.tup (.cons (.nm 5) (.cons (.nm 6) .nil))) (.enm (.var 1)) (.so (.cmp .Eq (.idx (.var 6) (.int 0)) (.var 2))) [5, 6])) 
    (.cons (.ife (.cmp .Eq (.var 4) (.lst .nil)) (
      (.cons (.exp (.app (.var 1) (.tup (.cons (.var 2) (.cons (.var 3) .nil))))) .nil)) (
      (.cons (.asg (.sub (.var 1) (.idx (.var 4) (.int 0))) (.tup (.cons (.var 2) (.cons (.call 26 (.cons (.idx (.idx (.var 1) (.idx (.var 4) (.int 0))) (.int 1)) (.cons (.var 3) .nil))) .nil)))) .nil))) .nil)))) 
  (.cons (.ret (.blt .tuple (.cons (.blt .sorted (.cons (.lc (.var 6) (.nm 6) (.pln (.var 1)) (.so (.cmp .NotEq (.idx (.idx (.var 6) (.int 1)) (.int 0)) (.int 0))) [6]) .nil)) .nil))) .nil)))
def d_law_gathered : DefD := ⟨"_law_gathered", top 48, ["terms", "found", "powers", "number", "spots", "at", "each"], ["terms"], 2, ⟨1, 7, b_law_gathered⟩, false, none⟩
def b_law_small : Ss :=
  (.cons (.ret (.call 25 (.cons (.bin .sub (.call 24 (.cons (.var 0) (.cons (.int 9) .nil))) (.int 4)) (.cons (.bin .add (.int 1) (.call 24 (.cons (.var 0) (.cons (.int 3) .nil)))) .nil)))) .nil)
def d_law_small : DefD := ⟨"_law_small", top 49, ["sack"], ["sack"], 1, ⟨1, 1, b_law_small⟩, false, none⟩
def b_law_drawn_place : Ss :=
  (.cons (.ret (.blt .tuple (.cons (.lc (.call 34 (.cons (.var 0) .nil)) (.nm 2) (.rng (.cons (.var 1) .nil)) .no [2]) .nil))) .nil)
def d_law_drawn_place : DefD := ⟨"_law_drawn_place", top 50, ["sack", "many", "each"], ["sack", "many"], 2, ⟨2, 3, b_law_drawn_place⟩, false, none⟩
def b_law_drawn_form : Ss :=
  (.cons (.asg (.nm 3) (.lst (.cons (.tup (.cons (.bin .mul (.tup (.cons (.int 0) .nil)) (.var 1)) (.cons (.call 34 (.cons (.var 0) .nil)) .nil))) .nil))) 
  (.cons (.fr (.nm 4) (.rng (.cons (.var 1) .nil)) (
    (.cons (.asg (.nm 5) (.ife (.or (.cmp .NotEq (.var 4) (.var 2)) (.cmp .Eq (.call 24 (.cons (.var 0) (.cons (.int 6) .nil))) (.int 0))) (.call 34 (.cons (.var 0) .nil)) (.call 25 (.cons (.bin .add (.int 2) (.call 24 (.cons (.var 0) (.cons (.int 4) .nil)))) (.cons (.bin .add (.int 1) (.call 24 (.cons (.var 0) (.cons (.int 2) .nil)))) .nil))))) 
    (.cons (.exp (.app (.var 3) (.tup (.cons (.blt .tuple (.cons (.lc (.blt .int (.cons (.cmp .Eq (.var 6) (.var 4)) .nil)) (.nm 6) (.rng (.cons (.var 1) .nil)) .no [6]) .nil)) (.cons (.var 5) .nil))))) .nil)))) 
  (.cons (.fr (.nm 7) (.rng (.cons (.call 24 (.cons (.var 0) (.cons (.int 4) .nil))) .nil)) (
    (.cons (.asg (.nm 8) (.bin .mul (.lst (.cons (.int 0) .nil)) (.var 1))) 
    (.cons (.fr (.nm 9) (.rng (.cons (.bin .add (.int 2) (.call 24 (.cons (.var 0) (.cons (.int 3) .nil)))) .nil)) (
      (.cons (.aug (.var 8) (.call 24 (.cons (.var 0) (.cons (.var 1) .nil))) 1) .nil))) 
    (.cons (.exp (.app (.var 3) (.tup (.cons (.blt .tuple (.cons (.var 8) .nil)) (.cons (.call 25 (.cons (.bin .sub (.call 24 (.cons (.var 0) (.cons (.int 9) .nil))) (.int 4)) (.cons (.bin .add (.int 1) (.call 24 (.cons (.var 0) (.cons (.int 6) .nil)))) .nil))) .nil))))) .nil))))) 
  (.cons (.ret (.call 33 (.cons (.var 3) .nil))) .nil))))
def d_law_drawn_form : DefD := ⟨"_law_drawn_form", top 51, ["sack", "many", "own", "terms", "at", "number", "spot", "turn", "powers", "lap"], ["sack", "many", "own"], 3, ⟨3, 10, b_law_drawn_form⟩, false, none⟩
def b_law_drawn_system : Ss :=
  (.cons (.asg (.nm 2) (.bin .add (.int 1) (.call 24 (.cons (.var 0) (.cons (.var 1) .nil))))) 
  (.cons (.ret (.blt .tuple (.cons (.lc (.call 36 (.cons (.var 0) (.cons (.var 2) (.cons (.var 3) .nil)))) (.nm 3) (.rng (.cons (.var 2) .nil)) .no [3]) .nil))) .nil))
def d_law_drawn_system : DefD := ⟨"_law_drawn_system", top 52, ["sack", "most", "many", "own"], ["sack", "most"], 4, ⟨2, 4, b_law_drawn_system⟩, false, none⟩
def b_law_right : Ss :=
  (.cons (.asg (.nm 1) (.call 37 (.cons (.var 0) (.cons (.int 3) .nil)))) 
  (.cons (.asg (.nm 2) (.blt .len (.cons (.var 1) .nil))) 
  (.cons (.asg (.nm 3) (.call 35 (.cons (.var 0) (.cons (.var 2) .nil)))) 
  (.cons (.asg (.tup (.cons (.nm 4) (.cons (.nm 5) .nil))) (.tup (.cons (.blt .tuple (.cons (.lc (.call 30 (.cons (.var 6) (.cons (.var 3) .nil))) (.nm 6) (.pln (.var 1)) .no [6]) .nil)) (.cons (.call 32 (.cons (.var 1) (.cons (.var 3) .nil))) .nil)))) 
  (.cons (.asg (.nm 7) (.lst (.cons (.call 21 (.cons (.var 1) (.cons (.var 3) .nil))) (.cons (.callk 21 .nil [1, 0] (.cons (.var 3) (.cons (.var 1) .nil))) (.cons (.call 22 (.cons (.var 1) (.cons (.var 3) .nil))) (.cons (.callk 22 .nil [1, 0] (.cons (.var 3) (.cons (.var 1) .nil))) .nil)))))) 
  (.cons (.ife (.cmp .NotEq (.blt .repr (.cons (.var 7) .nil)) (.blt .repr (.cons (.lst (.cons (.var 4) (.cons (.var 4) (.cons (.var 5) (.cons (.var 5) .nil))))) .nil))) (
    (.cons (.ret (.bl false)) .nil)) (.nil)) 
  (.cons (.asg (.tup (.cons (.nm 8) (.cons (.nm 9) .nil))) (.tup (.cons (.call 24 (.cons (.var 0) (.cons (.var 2) .nil))) (.cons (.bin .add (.int 1) (.call 24 (.cons (.var 0) (.cons (.int 3) .nil)))) .nil)))) 
  (.cons (.asg (.nm 10) (.lst .nil)) 
  (.cons (.fr (.nm 6) (.pln (.var 1)) (
    (.cons (.asg (.nm 11) (.lc (.tup (.cons (.bin .add (.bin .add (.slc (.var 12) .no (.so (.var 8))) (.tup (.cons (.bin .add (.idx (.var 12) (.var 8)) (.var 9)) .nil))) (.slc (.var 12) (.so (.bin .add (.var 8) (.int 1))) .no)) (.cons (.var 13) .nil))) (.tup (.cons (.nm 12) (.cons (.nm 13) .nil))) (.pln (.var 6)) .no [12, 13])) 
    (.cons (.exp (.app (.var 10) (.call 33 (.cons (.var 11) .nil)))) .nil)))) 
  (.cons (.asg (.tup (.cons (.nm 14) (.cons (.nm 15) .nil))) (.tup (.cons (.call 28 (.cons (.idx (.var 3) (.var 8)) (.cons (.var 9) .nil))) (.cons (.call 27 (.cons (.tup (.cons (.var 9) (.cons (.int 1) .nil))) (.cons (.call 28 (.cons (.idx (.var 3) (.var 8)) (.cons (.bin .sub (.var 9) (.int 1)) .nil))) .nil))) .nil)))) 
  (.cons (.asg (.nm 16) (.lst .nil)) 
  (.cons (.fr (.tup (.cons (.nm 17) (.cons (.nm 18) .nil))) (.zip (.var 5) (.var 4)) (
    (.cons (.asg (.nm 19) (.lc (.call 27 (.cons (.var 14) (.cons (.var 20) .nil))) (.nm 20) (.pln (.var 17)) .no [20])) 
    (.cons (.asg (.sub (.var 19) (.var 8)) (.call 26 (.cons (.idx (.var 19) (.var 8)) (.cons (.call 27 (.cons (.var 15) (.cons (.var 18) .nil))) .nil)))) 
    (.cons (.exp (.app (.var 16) (.blt .tuple (.cons (.var 19) .nil)))) .nil))))) 
  (.cons (.asg (.nm 7) (.lst (.cons (.call 21 (.cons (.blt .tuple (.cons (.var 10) .nil)) (.cons (.var 3) .nil))) (.cons (.call 22 (.cons (.blt .tuple (.cons (.var 10) .nil)) (.cons (.var 3) .nil))) .nil)))) 
  (.cons (.ret (.cmp .Eq (.blt .repr (.cons (.var 7) .nil)) (.blt .repr (.cons (.lst (.cons (.blt .tuple (.cons (.lc (.call 27 (.cons (.var 14) (.cons (.var 20) .nil))) (.nm 20) (.pln (.var 4)) .no [20]) .nil)) (.cons (.blt .tuple (.cons (.var 16) .nil)) .nil))) .nil)))) .nil))))))))))))))
def d_law_right : DefD := ⟨"_law_right", top 53, [("sack" : Str), ("system" : Str), ("many" : Str), ("place" : Str), ("due" : Str), ("table" : Str), ("form" : Str), ("told" : Str), ("at" : Str), ("times" : Str), ("grown" : Str), ("terms" : Str), ("powers" : Str), ("number" : Str), ("by" : Str), ("less" : Str), ("rows" : Str), ("row" : Str), ("here" : Str), ("new" : Str), ("each" : Str)], ["sack"], 8, ⟨1, 21, b_law_right⟩, false, none⟩
def b_law : Ss :=
  (.cons (.ret (.blt .all (.cons (.lc (.call 38 (.cons (.call 23 (.cons (.var 0) (.cons (.var 1) .nil))) .nil)) (.nm 1) (.rng (.cons (.blt .max (.cons (.int 2) (.cons (.blt .min (.cons (.blt .len (.cons (.var 0) .nil)) (.cons (.int 4) .nil))) .nil))) .nil)) .no [1]) .nil))) .nil)
def d_law : DefD := ⟨"law", top 54, ["script", "turn"], ["script"], 9, ⟨1, 2, b_law⟩, false, none⟩
def ds : List DefD := [d_is_whole, d_are_wholes, d_divisor_of, d_is_reduced, d_is_ratio, d_ratio_with, d_ratio_sum, d_ratio_product, d_are_ratios, d_is_term, d_is_form, d_is_formed, d_is_spot, d_check_system, d_check_place, d_form_with, d_raised_ratio, d_worth_of_form, d_worths_of, d_grown_form, d_slopes_of, d_worth, d_slopes, d_law_sack, d_law_pull, d_law_f, d_law_plus, d_law_times, d_law_raised, d_law_term_worth, d_law_worth, d_law_slope, d_law_slopes, d_law_gathered, d_law_small, d_law_drawn_place, d_law_drawn_form, d_law_drawn_system, d_law_right, d_law]
def fns_0 : List (Str × Nat × Nat) := [(("is_whole" : Str), 1, 0), (("are_wholes" : Str), 2, 1), (("divisor_of" : Str), 1, 0), (("is_reduced" : Str), 1, 1), (("is_ratio" : Str), 1, 2), (("ratio_with" : Str), 2, 1), (("ratio_sum" : Str), 2, 2), (("ratio_product" : Str), 2, 2), (("are_ratios" : Str), 1, 3), (("is_term" : Str), 2, 3), (("is_form" : Str), 2, 4), (("is_formed" : Str), 1, 5), (("is_spot" : Str), 2, 4), (("check_system" : Str), 1, 6), (("check_place" : Str), 2, 5), (("form_with" : Str), 1, 3), (("raised_ratio" : Str), 2, 3), (("worth_of_form" : Str), 2, 4), (("worths_of" : Str), 2, 5), (("grown_form" : Str), 2, 4), (("slopes_of" : Str), 2, 5), (("worth" : Str), 2, 7), (("slopes" : Str), 2, 7), (("_law_sack" : Str), 2, 0), (("_law_pull" : Str), 2, 0), (("_law_f" : Str), 2, 0), (("_law_plus" : Str), 2, 1), (("_law_times" : Str), 2, 1), (("_law_raised" : Str), 2, 2), (("_law_term_worth" : Str), 2, 3)]
def fns_1 : List (Str × Nat × Nat) := [(("_law_worth" : Str), 2, 4), (("_law_slope" : Str), 3, 4), (("_law_slopes" : Str), 2, 5), (("_law_gathered" : Str), 1, 2), (("_law_small" : Str), 1, 1), (("_law_drawn_place" : Str), 2, 2), (("_law_drawn_form" : Str), 3, 3), (("_law_drawn_system" : Str), 2, 4), (("_law_right" : Str), 1, 8), (("law" : Str), 1, 9)]
def G : Gt := ⟨(fns_0 ++ fns_1), [(21, 0, ["place", "system"], [1, 0]), (22, 0, ["place", "system"], [1, 0])], ["MOST_POWER", "ZERO", "MOST_UNKNOWNS", "ONE"], ["isinstance", "bool", "int", "all", "len", "tuple", "sum", "min", "zip", "sorted", "range", "abs", "divmod", "enumerate", "repr", "max"], true, [], [], [], [], [], [], []⟩
def gls : List D := [(.int 8), (.tup [(.int 0), (.int 1)]), (.int 3), (.tup [(.int 1), (.int 1)])]
def gl (k : Nat) : D := gls.getD k .non
theorem ck_is_whole : ckD G d_is_whole = true := by decide +kernel
theorem ck_are_wholes : ckD G d_are_wholes = true := by decide +kernel
theorem ck_divisor_of : ckD G d_divisor_of = true := by decide +kernel
theorem ck_is_reduced : ckD G d_is_reduced = true := by decide +kernel
theorem ck_is_ratio : ckD G d_is_ratio = true := by decide +kernel
theorem ck_ratio_with : ckD G d_ratio_with = true := by decide +kernel
theorem ck_ratio_sum : ckD G d_ratio_sum = true := by decide +kernel
theorem ck_ratio_product : ckD G d_ratio_product = true := by decide +kernel
theorem ck_are_ratios : ckD G d_are_ratios = true := by decide +kernel
theorem ck_is_term : ckD G d_is_term = true := by decide +kernel
theorem ck_is_form : ckD G d_is_form = true := by decide +kernel
theorem ck_is_formed : ckD G d_is_formed = true := by decide +kernel
theorem ck_is_spot : ckD G d_is_spot = true := by decide +kernel
theorem ck_check_system : ckD G d_check_system = true := by decide +kernel
theorem ck_check_place : ckD G d_check_place = true := by decide +kernel
theorem ck_form_with : ckD G d_form_with = true := by decide +kernel
theorem ck_raised_ratio : ckD G d_raised_ratio = true := by decide +kernel
theorem ck_worth_of_form : ckD G d_worth_of_form = true := by decide +kernel
theorem ck_worths_of : ckD G d_worths_of = true := by decide +kernel
theorem ck_grown_form : ckD G d_grown_form = true := by decide +kernel
theorem ck_slopes_of : ckD G d_slopes_of = true := by decide +kernel
theorem ck_worth : ckD G d_worth = true := by decide +kernel
theorem ck_slopes : ckD G d_slopes = true := by decide +kernel
theorem ck_law_sack : ckD G d_law_sack = true := by decide +kernel
theorem ck_law_pull : ckD G d_law_pull = true := by decide +kernel
theorem ck_law_f : ckD G d_law_f = true := by decide +kernel
theorem ck_law_plus : ckD G d_law_plus = true := by decide +kernel
theorem ck_law_times : ckD G d_law_times = true := by decide +kernel
theorem ck_law_raised : ckD G d_law_raised = true := by decide +kernel
theorem ck_law_term_worth : ckD G d_law_term_worth = true := by decide +kernel
theorem ck_law_worth : ckD G d_law_worth = true := by decide +kernel
theorem ck_law_slope : ckD G d_law_slope = true := by decide +kernel
theorem ck_law_slopes : ckD G d_law_slopes = true := by decide +kernel
theorem ck_law_gathered : ckD G d_law_gathered = true := by decide +kernel
theorem ck_law_small : ckD G d_law_small = true := by decide +kernel
theorem ck_law_drawn_place : ckD G d_law_drawn_place = true := by decide +kernel
theorem ck_law_drawn_form : ckD G d_law_drawn_form = true := by decide +kernel
theorem ck_law_drawn_system : ckD G d_law_drawn_system = true := by decide +kernel
theorem ck_law_right : ckD G d_law_right = true := by decide +kernel
theorem ck_law : ckD G d_law = true := by decide +kernel
theorem bd_is_whole : BdOk d_is_whole := fun _ _ _ _ _ _ us hl => match us, hl with | [_], _ => rfl
theorem bd_are_wholes : BdOk d_are_wholes := fun _ _ _ _ _ _ us hl => match us, hl with | [_, _], _ => rfl
theorem bd_divisor_of : BdOk d_divisor_of := fun _ _ _ _ _ _ us hl => match us, hl with | [_], _ => rfl
theorem bd_is_reduced : BdOk d_is_reduced := fun _ _ _ _ _ _ us hl => match us, hl with | [_], _ => rfl
theorem bd_is_ratio : BdOk d_is_ratio := fun _ _ _ _ _ _ us hl => match us, hl with | [_], _ => rfl
theorem bd_ratio_with : BdOk d_ratio_with := fun _ _ _ _ _ _ us hl => match us, hl with | [_, _], _ => rfl
theorem bd_ratio_sum : BdOk d_ratio_sum := fun _ _ _ _ _ _ us hl => match us, hl with | [_, _], _ => rfl
theorem bd_ratio_product : BdOk d_ratio_product := fun _ _ _ _ _ _ us hl => match us, hl with | [_, _], _ => rfl
theorem bd_are_ratios : BdOk d_are_ratios := fun _ _ _ _ _ _ us hl => match us, hl with | [_], _ => rfl
theorem bd_is_term : BdOk d_is_term := fun _ _ _ _ _ _ us hl => match us, hl with | [_, _], _ => rfl
theorem bd_is_form : BdOk d_is_form := fun _ _ _ _ _ _ us hl => match us, hl with | [_, _], _ => rfl
theorem bd_is_formed : BdOk d_is_formed := fun _ _ _ _ _ _ us hl => match us, hl with | [_], _ => rfl
theorem bd_is_spot : BdOk d_is_spot := fun _ _ _ _ _ _ us hl => match us, hl with | [_, _], _ => rfl
theorem bd_check_system : BdOk d_check_system := fun _ _ _ _ _ _ us hl => match us, hl with | [_], _ => rfl
theorem bd_check_place : BdOk d_check_place := fun _ _ _ _ _ _ us hl => match us, hl with | [_, _], _ => rfl
theorem bd_form_with : BdOk d_form_with := fun _ _ _ _ _ _ us hl => match us, hl with | [_], _ => rfl
theorem bd_raised_ratio : BdOk d_raised_ratio := fun _ _ _ _ _ _ us hl => match us, hl with | [_, _], _ => rfl
theorem bd_worth_of_form : BdOk d_worth_of_form := fun _ _ _ _ _ _ us hl => match us, hl with | [_, _], _ => rfl
theorem bd_worths_of : BdOk d_worths_of := fun _ _ _ _ _ _ us hl => match us, hl with | [_, _], _ => rfl
theorem bd_grown_form : BdOk d_grown_form := fun _ _ _ _ _ _ us hl => match us, hl with | [_, _], _ => rfl
theorem bd_slopes_of : BdOk d_slopes_of := fun _ _ _ _ _ _ us hl => match us, hl with | [_, _], _ => rfl
theorem bd_worth : BdOk d_worth := fun _ _ _ _ _ _ us hl => match us, hl with | [_, _], _ => rfl
theorem bd_slopes : BdOk d_slopes := fun _ _ _ _ _ _ us hl => match us, hl with | [_, _], _ => rfl
theorem bd_law_sack : BdOk d_law_sack := fun _ _ _ _ _ _ us hl => match us, hl with | [_, _], _ => rfl
theorem bd_law_pull : BdOk d_law_pull := fun _ _ _ _ _ _ us hl => match us, hl with | [_, _], _ => rfl
theorem bd_law_f : BdOk d_law_f := fun _ _ _ _ _ _ us hl => match us, hl with | [_, _], _ => rfl
theorem bd_law_plus : BdOk d_law_plus := fun _ _ _ _ _ _ us hl => match us, hl with | [_, _], _ => rfl
theorem bd_law_times : BdOk d_law_times := fun _ _ _ _ _ _ us hl => match us, hl with | [_, _], _ => rfl
theorem bd_law_raised : BdOk d_law_raised := fun _ _ _ _ _ _ us hl => match us, hl with | [_, _], _ => rfl
theorem bd_law_term_worth : BdOk d_law_term_worth := fun _ _ _ _ _ _ us hl => match us, hl with | [_, _], _ => rfl
theorem bd_law_worth : BdOk d_law_worth := fun _ _ _ _ _ _ us hl => match us, hl with | [_, _], _ => rfl
theorem bd_law_slope : BdOk d_law_slope := fun _ _ _ _ _ _ us hl => match us, hl with | [_, _, _], _ => rfl
theorem bd_law_slopes : BdOk d_law_slopes := fun _ _ _ _ _ _ us hl => match us, hl with | [_, _], _ => rfl
theorem bd_law_gathered : BdOk d_law_gathered := fun _ _ _ _ _ _ us hl => match us, hl with | [_], _ => rfl
theorem bd_law_small : BdOk d_law_small := fun _ _ _ _ _ _ us hl => match us, hl with | [_], _ => rfl
theorem bd_law_drawn_place : BdOk d_law_drawn_place := fun _ _ _ _ _ _ us hl => match us, hl with | [_, _], _ => rfl
theorem bd_law_drawn_form : BdOk d_law_drawn_form := fun _ _ _ _ _ _ us hl => match us, hl with | [_, _, _], _ => rfl
theorem bd_law_drawn_system : BdOk d_law_drawn_system := fun _ _ _ _ _ _ us hl => match us, hl with | [_, _], _ => rfl
theorem bd_law_right : BdOk d_law_right := fun _ _ _ _ _ _ us hl => match us, hl with | [_], _ => rfl
theorem bd_law : BdOk d_law := fun _ _ _ _ _ _ us hl => match us, hl with | [_], _ => rfl
theorem kw_0 : KwD d_worth 0 ["place", "system"] [1, 0] := fun _ _ _ _ _ _ us ws h1 h2 => match us, h1, ws, h2 with | [], _, [_, _], _ => rfl
theorem kw_1 : KwD d_slopes 0 ["place", "system"] [1, 0] := fun _ _ _ _ _ _ us ws h1 h2 => match us, h1, ws, h2 with | [], _, [_, _], _ => rfl
theorem ck_all : AllCk G ds := ⟨ck_is_whole, ck_are_wholes, ck_divisor_of, ck_is_reduced, ck_is_ratio, ck_ratio_with, ck_ratio_sum, ck_ratio_product, ck_are_ratios, ck_is_term, ck_is_form, ck_is_formed, ck_is_spot, ck_check_system, ck_check_place, ck_form_with, ck_raised_ratio, ck_worth_of_form, ck_worths_of, ck_grown_form, ck_slopes_of, ck_worth, ck_slopes, ck_law_sack, ck_law_pull, ck_law_f, ck_law_plus, ck_law_times, ck_law_raised, ck_law_term_worth, ck_law_worth, ck_law_slope, ck_law_slopes, ck_law_gathered, ck_law_small, ck_law_drawn_place, ck_law_drawn_form, ck_law_drawn_system, ck_law_right, ck_law, trivial⟩
theorem bd_all : AllBd ds := ⟨bd_is_whole, bd_are_wholes, bd_divisor_of, bd_is_reduced, bd_is_ratio, bd_ratio_with, bd_ratio_sum, bd_ratio_product, bd_are_ratios, bd_is_term, bd_is_form, bd_is_formed, bd_is_spot, bd_check_system, bd_check_place, bd_form_with, bd_raised_ratio, bd_worth_of_form, bd_worths_of, bd_grown_form, bd_slopes_of, bd_worth, bd_slopes, bd_law_sack, bd_law_pull, bd_law_f, bd_law_plus, bd_law_times, bd_law_raised, bd_law_term_worth, bd_law_worth, bd_law_slope, bd_law_slopes, bd_law_gathered, bd_law_small, bd_law_drawn_place, bd_law_drawn_form, bd_law_drawn_system, bd_law_right, bd_law, trivial⟩
theorem kw_all : AllKw ds G.kws := ⟨⟨_, rfl, kw_0⟩, ⟨_, rfl, kw_1⟩, trivial⟩
/-- the plain law -/
def Plain : Prop := ∀ ns : List Int, ns.length ≤ 63 → ∃ h2, dels ds (fun k => gls.getD k .non) 10 39 [.fz (ns.map D.int)] [] = .ok (.bl true) h2
def nm_0 : List Str := ["__name__", "HomeError", "InvalidSystem", "InvalidPlace", "is_whole", "are_wholes", "divisor_of", "is_reduced", "ZERO", "ONE", "is_ratio", "ratio_with", "ratio_sum", "ratio_product", "are_ratios", "MOST_UNKNOWNS", "MOST_POWER", "is_term", "is_form", "is_formed", "is_spot", "check_system", "check_place", "form_with", "raised_ratio", "worth_of_form", "worths_of", "grown_form", "slopes_of", "worth"]
def nm_1 : List Str := ["slopes", "_law_sack", "_law_pull", "_law_f", "_law_plus", "_law_times", "_law_raised", "_law_term_worth", "_law_worth", "_law_slope", "_law_slopes", "_law_gathered", "_law_small", "_law_drawn_place", "_law_drawn_form", "_law_drawn_system", "_law_right"]
def nm : List Str := (nm_0 ++ nm_1)
theorem nd : clsN G = true := by decide
theorem td : tdsC ds G = true := by decide +kernel
theorem ins : insG ds G = true := by decide +kernel
abbrev R : PySem.W.OpenRow := PySem.W.OpenLaw.row PySem.Challenge.rw_homesteps_k07_whole_worths_and_slopes
abbrev hk : PySem.W.Hook := hookY 4 (heF ds G) (ds.map heD) [] (heT ds) (exB ds G gls)
def ob (s : PySem.W.SharedT) : He.AlX × Bool := obsY 4 (heF ds G) (ds.map heD) [] (heT ds) (exB ds G gls) (HandSHeadRun.getT s)
theorem ob_eq (s : PySem.W.SharedT) : ob s = hk.obs s.abs := obsY_eq (HandSHeadRun.getT_eq s)
set_option maxHeartbeats 0 in
theorem run (w : World) : HandSHeadRun.RunEqI R (PySem.W.view R.prog [0, 54]) hk ob 6000 nm w := by
  unfold HandSHeadRun.RunEqI
  kernel_rfl
theorem fin (pl : Plain) {w : World} {mg : Str → Option Value} {h : Heap} (Y : (∃ K : PySem.W.Frag, K.In h ∧ He.SaysX (heF ds G) (ds.map heD) [] (heT ds) (exB ds G gls) w h K) ∧ SysOk h) (Gm : h.Ns mainGlobals mg) : ∃ K : PySem.W.Frag, K.In h ∧ LawOk K mg h "law" "script" 63 := by
  obtain ⟨⟨K, KX, c⟩, sm⟩ := Y
  exact ⟨K, KX, law_of (k := 39) (d := d_law) KX Gm c rfl ck_all bd_all kw_all nd td ins sm rfl rfl rfl (by decide) pl⟩
end K07

/-! Plain reasoning about the evaluator: numbers, fractions. -/
namespace HS
open PySem L2

theorem call_at {ds : List DefD} {gl : Nat → D} {n k : Nat} {d : DefD} (hd : ds[k]? = some d) (h : d.lv < n) : dels ds gl n k = run (dels ds gl d.lv) gl d.df := by
  have e1 : lvOf ds k = d.lv := by unfold lvOf; rw [hd]
  have e2 : tabOf ds k = d.df := by unfold tabOf; rw [hd]
  have z := del_at (tab := tabOf ds) (lv := lvOf ds) (gl := gl) (n := n) (k := k) (by rw [e1]; exact h)
  rw [e1, e2] at z
  exact z
@[simp] theorem flat_int {i : Int} : (D.int i).flat = true := rfl
@[simp] theorem flat_bl {i : Bool} : (D.bl i).flat = true := rfl
@[simp] theorem flat_non : D.non.flat = true := rfl
@[simp] theorem flat_str {i : Str} : (D.str i).flat = true := rfl
@[simp] theorem flat_tup {xs : List D} : (D.tup xs).flat = D.flats xs := rfl
@[simp] theorem flat_ref {n : Nat} : (D.ref n).flat = false := rfl
@[simp] theorem flats_nil : D.flats [] = true := rfl
@[simp] theorem flats_cons {d : D} {ds : List D} : D.flats (d :: ds) = (d.flat && D.flats ds) := rfl
theorem tidy_self {d : D} {h : Hh} (f : d.flat = true) : tidy h d h = .ok d h := by
  unfold tidy
  rw [if_pos ⟨f, List.prefix_rfl⟩]
theorem tidy_pre {d : D} {h t : Hh} (f : d.flat = true) : tidy h d (h ++ t) = .ok d h := by
  unfold tidy
  rw [if_pos ⟨f, List.prefix_append _ _⟩]
theorem tidy_flat {d : D} {h h' : Hh} (f : d.flat = true) : tidy h d h' = .ok d h ∨ tidy h d h' = .ok d h' := by
  unfold tidy
  split
  · exact .inl rfl
  · cases d <;> first | exact .inr rfl | (simp [D.flat] at f; done)
@[simp] theorem atI_0 {α : Type} {a : α} {l : List α} : atI (a :: l) 0 = some a := by simp [atI, ixN]
@[simp] theorem atI_1 {α : Type} {a b : α} {l : List α} : atI (a :: b :: l) 1 = some b := by
  have : ixN (a :: b :: l).length 1 = some 1 := by simp [ixN]; omega
  unfold atI
  rw [this]
  rfl
@[simp] theorem atI_2 {α : Type} {a b c : α} {l : List α} : atI (a :: b :: c :: l) 2 = some c := by
  have : ixN (a :: b :: c :: l).length 2 = some 2 := by simp [ixN]; omega
  unfold atI
  rw [this]
  rfl
/-! ### sizes -/
/-- at most B bits -/
def Bt (B : Nat) (i : Int) : Prop := i.natAbs < 2 ^ B
theorem Bt.mono {B C : Nat} {i : Int} (h : Bt B i) (l : B ≤ C) : Bt C i := Nat.lt_of_lt_of_le h (Nat.pow_le_pow_right (by decide) l)
theorem Bt.log {B : Nat} {i : Int} (h : Bt B i) : i.natAbs.log2 ≤ B := by
  by_cases h0 : i.natAbs = 0
  · rw [h0]; simp
  · exact Nat.le_of_lt ((Nat.log2_lt h0).mpr h)
theorem Bt.mul {B C : Nat} {i j : Int} (h : Bt B i) (g : Bt C j) : Bt (B + C) (i * j) := by
  unfold Bt at *
  rw [Int.natAbs_mul, Nat.pow_add]
  exact Nat.mul_lt_mul'' h g
theorem Bt.add {B C : Nat} {i j : Int} (h : Bt B i) (g : Bt C j) : Bt (max B C + 1) (i + j) := by
  have h := h.mono (Nat.le_max_left B C)
  have g := g.mono (Nat.le_max_right B C)
  unfold Bt at *
  rw [Nat.pow_succ]
  have := Int.natAbs_add_le i j
  omega
theorem Bt.sub {B C : Nat} {i j : Int} (h : Bt B i) (g : Bt C j) : Bt (max B C + 1) (i - j) := by
  have h := h.mono (Nat.le_max_left B C)
  have g := g.mono (Nat.le_max_right B C)
  unfold Bt at *
  rw [Nat.pow_succ]
  omega
theorem Bt.neg {B : Nat} {i : Int} (h : Bt B i) : Bt B (-i) := by unfold Bt at *; rwa [Int.natAbs_neg]
theorem mulOk_of {B C : Nat} {i j : Int} (h : Bt B i) (g : Bt C j) (l : B + C < 100000000) : mulOk i j = true := by
  have := h.log
  have := g.log
  exact decide_eq_true (by show _ < 100000000; omega)
theorem pylong_of {a b : Int} {B : Nat} (h : Bt B b) (l : B ≤ 8999) : Builtin.divisionGoesByPylong a b = false := by
  have e : ¬ (300 < (if b == 0 then 0 else b.natAbs.log2 / 30 + 1)) := by
    have := h.log
    split
    · omega
    · have h0 : b.natAbs ≠ 0 := by
        intro z
        have : b = 0 := Int.natAbs_eq_zero.mp z
        simp_all
      have : b.natAbs.log2 < 9000 := by omega
      omega
  unfold Builtin.divisionGoesByPylong
  simp only [gt_iff_lt]
  simp only [decide_eq_false e, Bool.false_and]
end HS

/-! The program's fractions. -/
namespace HS
open PySem L2
def B_is_whole : Ss :=
  (.cons (.ret (.and (.isi (.var 0) (.b "int")) (.not (.isi (.var 0) (.b "bool"))))) .nil)
def F_is_whole : Df := ⟨1, 1, B_is_whole⟩
def B_are_wholes (f_is_whole : Nat) : Ss :=
  (.cons (.ret (.and (.isi (.var 0) (.b "tuple")) (.and (.cmp .Eq (.blt .len (.cons (.var 0) .nil)) (.var 1)) (.blt .all (.cons (.lc (.call f_is_whole (.cons (.var 2) .nil)) (.nm 2) (.pln (.var 0)) .no [2]) .nil))))) .nil)
def F_are_wholes (f_is_whole : Nat) : Df := ⟨2, 3, B_are_wholes f_is_whole⟩
def B_divisor_of : Ss :=
  (.cons (.asg (.nm 1) (.int 0)) 
  (.cons (.fr (.nm 2) (.pln (.var 0)) (
    (.cons (.asg (.nm 1) (.blt .gcd (.cons (.var 1) (.cons (.var 2) .nil)))) .nil))) 
  (.cons (.ret (.var 1)) .nil)))
def F_divisor_of : Df := ⟨1, 3, B_divisor_of⟩
def B_is_reduced (f_divisor_of : Nat) : Ss :=
  (.cons (.ret (.cmp .Eq (.call f_divisor_of (.cons (.var 0) .nil)) (.int 1))) .nil)
def F_is_reduced (f_divisor_of : Nat) : Df := ⟨1, 1, B_is_reduced f_divisor_of⟩
def B_is_ratio (f_are_wholes f_is_reduced : Nat) : Ss :=
  (.cons (.ret (.and (.call f_are_wholes (.cons (.var 0) (.cons (.int 2) .nil))) (.and (.cmp .Gt (.idx (.var 0) (.int 1)) (.int 0)) (.call f_is_reduced (.cons (.var 0) .nil))))) .nil)
def F_is_ratio (f_are_wholes f_is_reduced : Nat) : Df := ⟨1, 1, B_is_ratio f_are_wholes f_is_reduced⟩
def B_ratio_with (f_divisor_of : Nat) : Ss :=
  (.cons (.asg (.nm 2) (.call f_divisor_of (.cons (.tup (.cons (.var 0) (.cons (.var 1) .nil))) .nil))) 
  (.cons (.asg (.nm 2) (.ife (.cmp .Gt (.var 1) (.int 0)) (.var 2) (.neg (.var 2)))) 
  (.cons (.ret (.tup (.cons (.bin .fdiv (.var 0) (.var 2)) (.cons (.bin .fdiv (.var 1) (.var 2)) .nil)))) .nil)))
def F_ratio_with (f_divisor_of : Nat) : Df := ⟨2, 3, B_ratio_with f_divisor_of⟩
def B_ratio_sum (f_ratio_with : Nat) : Ss :=
  (.cons (.ret (.call f_ratio_with (.cons (.bin .add (.bin .mul (.idx (.var 0) (.int 0)) (.idx (.var 1) (.int 1))) (.bin .mul (.idx (.var 1) (.int 0)) (.idx (.var 0) (.int 1)))) (.cons (.bin .mul (.idx (.var 0) (.int 1)) (.idx (.var 1) (.int 1))) .nil)))) .nil)
def F_ratio_sum (f_ratio_with : Nat) : Df := ⟨2, 2, B_ratio_sum f_ratio_with⟩
def B_ratio_less (f_ratio_with : Nat) : Ss :=
  (.cons (.ret (.call f_ratio_with (.cons (.bin .sub (.bin .mul (.idx (.var 0) (.int 0)) (.idx (.var 1) (.int 1))) (.bin .mul (.idx (.var 1) (.int 0)) (.idx (.var 0) (.int 1)))) (.cons (.bin .mul (.idx (.var 0) (.int 1)) (.idx (.var 1) (.int 1))) .nil)))) .nil)
def F_ratio_less (f_ratio_with : Nat) : Df := ⟨2, 2, B_ratio_less f_ratio_with⟩
def B_ratio_product (f_ratio_with : Nat) : Ss :=
  (.cons (.ret (.call f_ratio_with (.cons (.bin .mul (.idx (.var 0) (.int 0)) (.idx (.var 1) (.int 0))) (.cons (.bin .mul (.idx (.var 0) (.int 1)) (.idx (.var 1) (.int 1))) .nil)))) .nil)
def F_ratio_product (f_ratio_with : Nat) : Df := ⟨2, 2, B_ratio_product f_ratio_with⟩
def B_ratio_over (f_ratio_with : Nat) : Ss :=
  (.cons (.ret (.call f_ratio_with (.cons (.bin .mul (.idx (.var 0) (.int 0)) (.idx (.var 1) (.int 1))) (.cons (.bin .mul (.idx (.var 0) (.int 1)) (.idx (.var 1) (.int 0))) .nil)))) .nil)
def F_ratio_over (f_ratio_with : Nat) : Df := ⟨2, 2, B_ratio_over f_ratio_with⟩
def B_is_lower : Ss :=
  (.cons (.ret (.cmp .Lt (.bin .mul (.idx (.var 0) (.int 0)) (.idx (.var 1) (.int 1))) (.bin .mul (.idx (.var 1) (.int 0)) (.idx (.var 0) (.int 1))))) .nil)
def F_is_lower : Df := ⟨2, 2, B_is_lower⟩
/-- a fraction as the program has it -/
def fr (q : Rat) : D := .tup [.int q.num, .int q.den]
def Sz (B : Nat) (q : Rat) : Prop := Bt B q.num ∧ Bt B (q.den : Int)
def S_div (f : Fn) : Prop := ∀ (a b : Int) h, f [.tup [.int a, .int b]] h = .ok (.int (Int.gcd a b : Nat)) h
def S_with (f : Fn) : Prop := ∀ (a b : Int) (B : Nat) h, b ≠ 0 → Bt B b → B ≤ 8999 → f [.int a, .int b] h = .ok (fr (Rat.divInt a b)) h
def S_op (op : Rat → Rat → Rat) (f : Fn) : Prop := ∀ (p q : Rat) (B C : Nat) h, Sz B p → Sz C q → B + C ≤ 8999 → f [fr p, fr q] h = .ok (fr (op p q)) h
def S_over (f : Fn) : Prop := ∀ (p q : Rat) (B C : Nat) h, Sz B p → Sz C q → B + C ≤ 8999 → q ≠ 0 → f [fr p, fr q] h = .ok (fr (p / q)) h
def S_lower (f : Fn) : Prop := ∀ (p q : Rat) (B C : Nat) h, Sz B p → Sz C q → B + C ≤ 1000000 → f [fr p, fr q] h = .ok (.bl (decide (p < q))) h
theorem den_ne (q : Rat) : (q.den : Int) ≠ 0 := by have := q.den_nz; omega
theorem den_pos' (q : Rat) : (0 : Int) < q.den := by have := q.den_pos; omega
theorem fr_flat (q : Rat) : (fr q).flat = true := by simp [fr]
section
variable {Δ : Nat → Fn} {gl : Nat → D}
theorem gcd_gcd (a b : Int) : Nat.gcd (Nat.gcd 0 a.natAbs) b.natAbs = Int.gcd a b := by simp [Int.gcd]
theorem s_divisor_of : S_div (run Δ gl F_divisor_of) := by
  intro a b h
  simp [run, F_divisor_of, B_divisor_of, exs, ex, ev, evs, evi, asn, itemsD, forL, gsOk_nil, bltD, List.set, tidy_self, gcd_gcd, Int.gcd, R.calm]
  exact tidy_self rfl
theorem gcd_bt {a b : Int} {B : Nat} (h : Bt B b) (h0 : b ≠ 0) : Bt B (Int.gcd a b : Nat) := by
  unfold Bt at *
  have := Int.gcd_le_natAbs_right a h0
  simp only [Int.natAbs_natCast]
  omega
theorem fr_divInt {a b : Int} (h : b ≠ 0) : fr (Rat.divInt a b) = .tup [.int (a.fdiv (if 0 < b then (Int.gcd a b : Nat) else -((Int.gcd a b : Nat) : Int))), .int (b.fdiv (if 0 < b then (Int.gcd a b : Nat) else -((Int.gcd a b : Nat) : Int)))] := by
  have g0 : (Int.gcd a b : Nat) ≠ 0 := by
    intro z
    exact h (Int.gcd_eq_zero_iff.mp z).2
  have da : ((Int.gcd a b : Nat) : Int) ∣ a := Int.gcd_dvd_left a b
  have db : ((Int.gcd a b : Nat) : Int) ∣ b := Int.gcd_dvd_right a b
  obtain ⟨x, hx⟩ := da
  obtain ⟨y, hy⟩ := db
  have e1 := Rat.num_divInt a b
  have e2 := Rat.den_divInt a b
  rw [if_neg h, Int.gcd_comm] at e2
  rw [Int.gcd_comm] at e1
  generalize hg : (Int.gcd a b : Nat) = g at *
  have gz : (g : Int) ≠ 0 := by omega
  unfold fr
  rw [e1, e2]
  have fa : ∀ z : Int, ((g : Int) * z).fdiv (-(g : Int)) = -z := fun z => by
    rw [Int.fdiv_eq_ediv_of_dvd ⟨-z, by simp [Int.mul_neg, Int.neg_mul]⟩]
    rw [Int.ediv_neg, Int.mul_ediv_cancel_left _ gz]
  have fb : ∀ z : Int, ((g : Int) * z).fdiv (g : Int) = z := fun z => by
    rw [Int.fdiv_eq_ediv_of_dvd ⟨z, rfl⟩, Int.mul_ediv_cancel_left _ gz]
  have hb : (b.natAbs / g : Nat) = y.natAbs := by
    rw [hy, Int.natAbs_mul, Int.natAbs_natCast]
    exact Nat.mul_div_cancel_left _ (by omega)
  by_cases hp : 0 < b
  · have ys : 0 < y := by
      rcases Int.lt_or_le 0 y with z | z
      · exact z
      · have := Int.mul_nonpos_of_nonneg_of_nonpos (a := (g : Int)) (b := y) (by omega) z
        omega
    rw [if_pos hp, Int.sign_eq_one_of_pos hp, Int.one_mul, hb]
    rw [hx, hy, fb, fb, Int.mul_ediv_cancel_left _ gz]
    simp [Int.natAbs_of_nonneg (Int.le_of_lt ys)]
  · have hn : b < 0 := by omega
    have ys : y < 0 := by
      rcases Int.lt_or_le y 0 with z | z
      · exact z
      · have := Int.mul_nonneg (a := (g : Int)) (b := y) (by omega) z
        omega
    rw [if_neg hp, Int.sign_eq_neg_one_of_neg hn, hb]
    rw [hx, hy, fa, fa]
    have : -1 * ((g : Int) * x) = (g : Int) * (-x) := by rw [Int.mul_neg]; omega
    rw [this, Int.mul_ediv_cancel_left _ gz]
    have : ((y.natAbs : Nat) : Int) = -y := by omega
    rw [this]
theorem s_ratio_with {i : Nat} (hd : S_div (Δ i)) : S_with (run Δ gl (F_ratio_with i)) := by
  intro a b B h h0 hb hB
  have g0 : ((Int.gcd a b : Nat) : Int) ≠ 0 := by
    intro z
    exact h0 (Int.gcd_eq_zero_iff.mp (Int.ofNat.inj z)).2
  have hg := gcd_bt (a := a) hb h0
  have p1 := fun x => pylong_of (a := x) hg hB
  have p2 := fun x => pylong_of (a := x) hg.neg hB
  rw [fr_divInt h0]
  by_cases hp : 0 < b
  · simp [run, F_ratio_with, B_ratio_with, exs, ex, ev, evs, asn, R.calm, hd a b h, cmpD, bop, hp, p1, g0, h0, lineOk, sizeLine, List.set, tidy_self]
  · simp [run, F_ratio_with, B_ratio_with, exs, ex, ev, evs, asn, R.calm, hd a b h, cmpD, bop, hp, p2, g0, h0, lineOk, sizeLine, List.set, tidy_self]

theorem add_eq (p q : Rat) : p + q = Rat.divInt (p.num * q.den + q.num * p.den) (p.den * q.den) := by
  conv => lhs; rw [← Rat.num_divInt_den p, ← Rat.num_divInt_den q]
  rw [Rat.divInt_add_divInt _ _ (den_ne p) (den_ne q)]
theorem sub_eq (p q : Rat) : p - q = Rat.divInt (p.num * q.den - q.num * p.den) (p.den * q.den) := by
  conv => lhs; rw [← Rat.num_divInt_den p, ← Rat.num_divInt_den q]
  rw [Rat.divInt_sub_divInt _ _ (den_ne p) (den_ne q)]
theorem mul_eq (p q : Rat) : p * q = Rat.divInt (p.num * q.num) (p.den * q.den) := by
  conv => lhs; rw [← Rat.num_divInt_den p, ← Rat.num_divInt_den q]
  rw [Rat.divInt_mul_divInt]
theorem div_eq (p q : Rat) : p / q = Rat.divInt (p.num * q.den) (p.den * q.num) := by
  conv => lhs; rw [← Rat.num_divInt_den p, ← Rat.num_divInt_den q]
  rw [Rat.div_def, Rat.inv_divInt, Rat.divInt_mul_divInt]
theorem num_ne {q : Rat} (h : q ≠ 0) : q.num ≠ 0 := fun z => h (Rat.num_eq_zero.mp z)
theorem dd_ne (p q : Rat) : (p.den : Int) * q.den ≠ 0 := Int.mul_ne_zero (den_ne p) (den_ne q)
theorem s_ratio_sum {i : Nat} (hw : S_with (Δ i)) : S_op (· + ·) (run Δ gl (F_ratio_sum i)) := by
  intro p q B C h hp hq hB
  have m1 : mulOk p.num q.den = true := mulOk_of hp.1 hq.2 (by omega)
  have m2 : mulOk q.num p.den = true := mulOk_of hq.1 hp.2 (by omega)
  have m3 : mulOk p.den q.den = true := mulOk_of hp.2 hq.2 (by omega)
  have w := hw (p.num * q.den + q.num * p.den) (p.den * q.den) (B + C) h (dd_ne p q) (hp.2.mul hq.2) hB
  simp [run, F_ratio_sum, B_ratio_sum, exs, ex, ev, evs, fr, ixD, bop, m1, m2, m3, w]
  rw [← add_eq]
  exact tidy_self (fr_flat _)
theorem s_ratio_less {i : Nat} (hw : S_with (Δ i)) : S_op (· - ·) (run Δ gl (F_ratio_less i)) := by
  intro p q B C h hp hq hB
  have m1 : mulOk p.num q.den = true := mulOk_of hp.1 hq.2 (by omega)
  have m2 : mulOk q.num p.den = true := mulOk_of hq.1 hp.2 (by omega)
  have m3 : mulOk p.den q.den = true := mulOk_of hp.2 hq.2 (by omega)
  have w := hw (p.num * q.den - q.num * p.den) (p.den * q.den) (B + C) h (dd_ne p q) (hp.2.mul hq.2) hB
  simp [run, F_ratio_less, B_ratio_less, exs, ex, ev, evs, fr, ixD, bop, m1, m2, m3, w]
  rw [← sub_eq]
  exact tidy_self (fr_flat _)
theorem s_ratio_product {i : Nat} (hw : S_with (Δ i)) : S_op (· * ·) (run Δ gl (F_ratio_product i)) := by
  intro p q B C h hp hq hB
  have m1 : mulOk p.num q.num = true := mulOk_of hp.1 hq.1 (by omega)
  have m3 : mulOk p.den q.den = true := mulOk_of hp.2 hq.2 (by omega)
  have w := hw (p.num * q.num) (p.den * q.den) (B + C) h (dd_ne p q) (hp.2.mul hq.2) hB
  simp [run, F_ratio_product, B_ratio_product, exs, ex, ev, evs, fr, ixD, bop, m1, m3, w]
  rw [← mul_eq]
  exact tidy_self (fr_flat _)
theorem s_ratio_over {i : Nat} (hw : S_with (Δ i)) : S_over (run Δ gl (F_ratio_over i)) := by
  intro p q B C h hp hq hB h0
  have m1 : mulOk p.num q.den = true := mulOk_of hp.1 hq.2 (by omega)
  have m3 : mulOk p.den q.num = true := mulOk_of hp.2 hq.1 (by omega)
  have w := hw (p.num * q.den) (p.den * q.num) (B + C) h (Int.mul_ne_zero (den_ne p) (num_ne h0)) (hp.2.mul hq.1) hB
  simp [run, F_ratio_over, B_ratio_over, exs, ex, ev, evs, fr, ixD, bop, m1, m3, w]
  rw [← div_eq]
  exact tidy_self (fr_flat _)
theorem s_is_lower : S_lower (run Δ gl F_is_lower) := by
  intro p q B C h hp hq hB
  have m1 : mulOk p.num q.den = true := mulOk_of hp.1 hq.2 (by omega)
  have m2 : mulOk q.num p.den = true := mulOk_of hq.1 hp.2 (by omega)
  simp [run, F_is_lower, B_is_lower, exs, ex, ev, evs, fr, ixD, bop, cmpD, m1, m2, ← Rat.lt_iff]
  exact tidy_self rfl
/-! ### is it a fraction -/
def S_whole (f : Fn) : Prop := ∀ (i : Int) h, f [.int i] h = .ok (.bl true) h
theorem s_is_whole : S_whole (run Δ gl F_is_whole) := by
  intro i h
  have k1 : kitB "int" "int" = some true := rfl
  have k2 : kitB "int" "bool" = some false := by decide +kernel
  simp [run, F_is_whole, B_is_whole, exs, ex, ev, isiD, tyD, k1, k2]
  exact tidy_self rfl
/-- two whole numbers -/
def S_wholes2 (f : Fn) : Prop := ∀ (i j : Int) h, f [.tup [.int i, .int j], .int 2] h = .ok (.bl true) h
theorem s_are_wholes {i : Nat} (hw : S_whole (Δ i)) : S_wholes2 (run Δ gl (F_are_wholes i)) := by
  intro a b h
  have k1 : kitB "tuple" "tuple" = some true := rfl
  simp [run, F_are_wholes, B_are_wholes, exs, ex, ev, evs, evi, evt, asn, isiD, tyD, k1, bltD, cmpD, eqD, itemsD, lcL, gsOk_nil, sizeLine, wipeD, List.set, hw a, hw b, R.calm, alloc, listAt, blsOf]
  exact tidy_pre rfl
/-- reduced -/
def S_reduced (f : Fn) : Prop := ∀ (q : Rat) h, f [fr q] h = .ok (.bl true) h
theorem s_is_reduced {i : Nat} (hd : S_div (Δ i)) : S_reduced (run Δ gl (F_is_reduced i)) := by
  intro q h
  have e : Int.gcd q.num q.den = 1 := q.reduced
  have w := hd q.num q.den h
  rw [e] at w
  simp [run, F_is_reduced, B_is_reduced, exs, ex, ev, evs, fr, w, cmpD, eqD]
  exact tidy_self rfl
def S_ratio (f : Fn) : Prop := ∀ (q : Rat) h, f [fr q] h = .ok (.bl true) h
theorem s_is_ratio {i j : Nat} (hw : S_wholes2 (Δ i)) (hr : S_reduced (Δ j)) : S_ratio (run Δ gl (F_is_ratio i j)) := by
  intro q h
  have p := den_pos' q
  have w := hw q.num q.den h
  have r := hr q h
  unfold fr at r
  simp [run, F_is_ratio, B_is_ratio, exs, ex, ev, evs, fr, w, r, ixD, cmpD, q.den_pos]
  exact tidy_self rfl
end
end HS

/-! The laws' own fractions, their urns. -/
namespace HS
open PySem L2
/-! ### while -/
theorem whN_more {c : En → Hh → R Bool} {bd : En → Hh → R F} : ∀ (n : Nat) (ρ : En) (h : Hh) (r : R F) (k : Nat), whN c bd n ρ h = some r → whN c bd (n + k) ρ h = some r := by
  intro n
  induction n with
  | zero => intro ρ h r k e; cases e
  | succ n ih =>
    intro ρ h r k e
    have : n + 1 + k = (n + k) + 1 := by omega
    rw [this]
    unfold whN at e ⊢
    split at e
    · split at e <;> first | exact ih _ _ _ _ e | exact e
    · exact e
    · exact e
    · exact e
theorem whL_of {c : En → Hh → R Bool} {bd : En → Hh → R F} {ρ : En} {h : Hh} {n : Nat} {r : R F} (e : whN c bd n ρ h = some r) : whL c bd ρ h = r := by
  unfold whL
  have hx : ∃ n r, whN c bd n ρ h = some r := ⟨n, r, e⟩
  rw [dif_pos hx]
  have e2 := (Classical.choose_spec hx).choose_spec
  generalize (Classical.choose_spec hx).choose = r2 at e2
  generalize Classical.choose hx = m at e2
  have a := whN_more n ρ h r m e
  have b := whN_more m ρ h r2 n e2
  rw [Nat.add_comm m n, a] at b
  exact (Option.some.inj b).symm
def B_is_lost_at (f_is_lower f_ratio_product g_ONE : Nat) : Ss :=
  (.cons (.ret (.not (.call f_is_lower (.cons (.call f_ratio_product (.cons (.var 0) (.cons (.var 1) .nil))) (.cons (.glb g_ONE) .nil))))) .nil)
def F_is_lost_at (f_is_lower f_ratio_product g_ONE : Nat) : Df := ⟨2, 2, B_is_lost_at f_is_lower f_ratio_product g_ONE⟩
def B_next_error (f_ratio_product f_ratio_over g_TWO f_ratio_less g_ONE f_ratio_sum : Nat) : Ss :=
  (.cons (.asg (.nm 3) (.call f_ratio_product (.cons (.var 0) (.cons (.var 2) .nil)))) 
  (.cons (.asg (.nm 4) (.call f_ratio_over (.cons (.call f_ratio_product (.cons (.var 3) (.cons (.var 2) .nil))) (.cons (.call f_ratio_product (.cons (.glb g_TWO) (.cons (.call f_ratio_less (.cons (.glb g_ONE) (.cons (.var 3) .nil))) .nil))) .nil)))) 
  (.cons (.ret (.call f_ratio_sum (.cons (.var 4) (.cons (.var 1) .nil)))) .nil)))
def F_next_error (f_ratio_product f_ratio_over g_TWO f_ratio_less g_ONE f_ratio_sum : Nat) : Df := ⟨3, 5, B_next_error f_ratio_product f_ratio_over g_TWO f_ratio_less g_ONE f_ratio_sum⟩
def B_check_change (f_is_ratio : Nat) : Ss :=
  (.cons (.ife (.or (.not (.call f_is_ratio (.cons (.var 0) .nil))) (.cmp .LtE (.idx (.var 0) (.int 0)) (.int 0))) (
    (.cons .never .nil)) (.nil)) .nil)
def F_check_change (f_is_ratio : Nat) : Df := ⟨1, 1, B_check_change f_is_ratio⟩
def B_check_rounding (f_is_ratio f_is_lost_at : Nat) : Ss :=
  (.cons (.ife (.or (.not (.call f_is_ratio (.cons (.var 1) .nil))) (.or (.cmp .Lt (.idx (.var 1) (.int 0)) (.int 0)) (.call f_is_lost_at (.cons (.var 0) (.cons (.var 1) .nil))))) (
    (.cons .never .nil)) (.nil)) .nil)
def F_check_rounding (f_is_ratio f_is_lost_at : Nat) : Df := ⟨2, 2, B_check_rounding f_is_ratio f_is_lost_at⟩
def B_check_first (f_is_ratio : Nat) : Ss :=
  (.cons (.ife (.or (.not (.call f_is_ratio (.cons (.var 0) .nil))) (.cmp .Lt (.idx (.var 0) (.int 0)) (.int 0))) (
    (.cons .never .nil)) (.nil)) .nil)
def F_check_first (f_is_ratio : Nat) : Df := ⟨1, 1, B_check_first f_is_ratio⟩
def B_check_gap (f_is_ratio : Nat) : Ss :=
  (.cons (.ife (.or (.not (.call f_is_ratio (.cons (.var 0) .nil))) (.cmp .LtE (.idx (.var 0) (.int 0)) (.int 0))) (
    (.cons .never .nil)) (.nil)) .nil)
def F_check_gap (f_is_ratio : Nat) : Df := ⟨1, 1, B_check_gap f_is_ratio⟩
def B_check_start (f_check_change f_check_rounding f_check_first : Nat) : Ss :=
  (.cons (.exp (.call f_check_change (.cons (.var 0) .nil))) 
  (.cons (.exp (.call f_check_rounding (.cons (.var 0) (.cons (.var 1) .nil)))) 
  (.cons (.exp (.call f_check_first (.cons (.var 2) .nil))) .nil)))
def F_check_start (f_check_change f_check_rounding f_check_first : Nat) : Df := ⟨3, 3, B_check_start f_check_change f_check_rounding f_check_first⟩
def B_law_nip : Ss :=
  (.cons (.ife (.cmp .Gt (.idx (.var 0) (.int 0)) (.int 0)) (
    (.cons (.asg (.tup (.cons (.sub (.var 0) (.int 0)) (.cons (.nm 2) .nil))) (.blt .divmod (.cons (.idx (.var 0) (.int 0)) (.cons (.var 1) .nil)))) 
    (.cons (.ret (.var 2)) .nil))) (.nil)) 
  (.cons (.asg (.sub (.var 0) (.int 2)) (.bin .add (.idx (.var 0) (.int 2)) (.int 1))) 
  (.cons (.asg (.nm 3) (.bin .mod (.blt .int (.cons (.bin .add (.bin .add (.bin .mul (.idx (.var 0) (.int 1)) (.int 41299)) (.bin .mul (.idx (.var 0) (.int 2)) (.int 50951))) (.int 23)) .nil)) (.int 2147483423))) 
  (.cons (.asg (.sub (.var 0) (.int 1)) (.bin .mod (.blt .int (.cons (.bin .add (.bin .mul (.var 3) (.bin .add (.bin .mul (.int 2) (.bin .fdiv (.var 3) (.int 37))) (.int 20011))) (.idx (.var 0) (.int 2))) .nil)) (.int 2147483423))) 
  (.cons (.ret (.bin .mod (.blt .int (.cons (.bin .fdiv (.idx (.var 0) (.int 1)) (.int 103)) .nil)) (.var 1))) .nil)))))
def F_law_nip : Df := ⟨2, 4, B_law_nip⟩
def B_law_any_of (f__law_nip : Nat) : Ss :=
  (.cons (.ret (.idx (.var 1) (.call f__law_nip (.cons (.var 0) (.cons (.blt .len (.cons (.var 1) .nil)) .nil))))) .nil)
def F_law_any_of (f__law_nip : Nat) : Df := ⟨2, 2, B_law_any_of f__law_nip⟩
def B_law_divisor : Ss :=
  (.cons (.asg (.tup (.cons (.nm 0) (.cons (.nm 1) .nil))) (.tup (.cons (.blt .abs (.cons (.var 0) .nil)) (.cons (.blt .abs (.cons (.var 1) .nil)) .nil)))) 
  (.cons (.whl (.cmp .Gt (.var 1) (.int 0)) (
    (.cons (.asg (.tup (.cons (.nm 0) (.cons (.nm 1) .nil))) (.tup (.cons (.var 1) (.cons (.bin .mod (.blt .int (.cons (.var 0) .nil)) (.var 1)) .nil)))) .nil))) 
  (.cons (.ret (.var 0)) .nil)))
def F_law_divisor : Df := ⟨2, 2, B_law_divisor⟩
def B_law_frac (f__law_divisor : Nat) : Ss :=
  (.cons (.asg (.nm 2) (.call f__law_divisor (.cons (.var 0) (.cons (.var 1) .nil)))) 
  (.cons (.asg (.nm 2) (.ife (.cmp .Gt (.var 1) (.int 0)) (.var 2) (.bin .sub (.int 0) (.var 2)))) 
  (.cons (.ret (.tup (.cons (.bin .fdiv (.var 0) (.var 2)) (.cons (.bin .fdiv (.var 1) (.var 2)) .nil)))) .nil)))
def F_law_frac (f__law_divisor : Nat) : Df := ⟨2, 3, B_law_frac f__law_divisor⟩
def B_law_add (f__law_frac : Nat) : Ss :=
  (.cons (.ret (.call f__law_frac (.cons (.bin .add (.bin .mul (.idx (.var 0) (.int 0)) (.idx (.var 1) (.int 1))) (.bin .mul (.idx (.var 1) (.int 0)) (.idx (.var 0) (.int 1)))) (.cons (.bin .mul (.idx (.var 0) (.int 1)) (.idx (.var 1) (.int 1))) .nil)))) .nil)
def F_law_add (f__law_frac : Nat) : Df := ⟨2, 2, B_law_add f__law_frac⟩
def B_law_sub (f__law_frac : Nat) : Ss :=
  (.cons (.ret (.call f__law_frac (.cons (.bin .sub (.bin .mul (.idx (.var 0) (.int 0)) (.idx (.var 1) (.int 1))) (.bin .mul (.idx (.var 1) (.int 0)) (.idx (.var 0) (.int 1)))) (.cons (.bin .mul (.idx (.var 0) (.int 1)) (.idx (.var 1) (.int 1))) .nil)))) .nil)
def F_law_sub (f__law_frac : Nat) : Df := ⟨2, 2, B_law_sub f__law_frac⟩
def B_law_mul (f__law_frac : Nat) : Ss :=
  (.cons (.ret (.call f__law_frac (.cons (.bin .mul (.idx (.var 0) (.int 0)) (.idx (.var 1) (.int 0))) (.cons (.bin .mul (.idx (.var 0) (.int 1)) (.idx (.var 1) (.int 1))) .nil)))) .nil)
def F_law_mul (f__law_frac : Nat) : Df := ⟨2, 2, B_law_mul f__law_frac⟩
def B_law_div (f__law_frac : Nat) : Ss :=
  (.cons (.ret (.call f__law_frac (.cons (.bin .mul (.idx (.var 0) (.int 0)) (.idx (.var 1) (.int 1))) (.cons (.bin .mul (.idx (.var 0) (.int 1)) (.idx (.var 1) (.int 0))) .nil)))) .nil)
def F_law_div (f__law_frac : Nat) : Df := ⟨2, 2, B_law_div f__law_frac⟩
def B_law_led (f__law_mul f__law_add f__law_div f__law_sub : Nat) : Ss :=
  (.cons (.asg (.nm 3) (.call f__law_mul (.cons (.var 0) (.cons (.var 2) .nil)))) 
  (.cons (.asg (.nm 4) (.call f__law_mul (.cons (.var 3) (.cons (.var 2) .nil)))) 
  (.cons (.ret (.call f__law_add (.cons (.call f__law_div (.cons (.var 4) (.cons (.call f__law_mul (.cons (.tup (.cons (.int 2) (.cons (.int 1) .nil))) (.cons (.call f__law_sub (.cons (.tup (.cons (.int 1) (.cons (.int 1) .nil))) (.cons (.var 3) .nil))) .nil))) .nil))) (.cons (.var 1) .nil)))) .nil)))
def F_law_led (f__law_mul f__law_add f__law_div f__law_sub : Nat) : Df := ⟨3, 5, B_law_led f__law_mul f__law_add f__law_div f__law_sub⟩
def B_law_is_lost : Ss :=
  (.cons (.ret (.cmp .GtE (.bin .mul (.idx (.var 0) (.int 0)) (.idx (.var 1) (.int 0))) (.bin .mul (.idx (.var 0) (.int 1)) (.idx (.var 1) (.int 1))))) .nil)
def F_law_is_lost : Df := ⟨2, 2, B_law_is_lost⟩
def S_gcd (f : Fn) : Prop := ∀ (a b : Int) h, f [.int a, .int b] h = .ok (.int (Int.gcd a b : Nat)) h
section
variable {Δ : Nat → Fn} {gl : Nat → D}
theorem gcd_loop {c : En → Hh → R Bool} {bd : En → Hh → R F} {h : Hh} (hc : ∀ (a b : Nat), c [some (.int a), some (.int b)] h = .ok (decide (0 < b)) h)
    (hb : ∀ (a b : Nat), 0 < b → bd [some (.int a), some (.int b)] h = .ok (.nx [some (.int b), some (.int ((a % b : Nat) : Int))]) h) :
    ∀ (b a : Nat), ∃ n, whN c bd n [some (.int a), some (.int b)] h = some (.ok (.nx [some (.int (Nat.gcd a b : Nat)), some (.int 0)]) h) := by
  intro b
  induction b using Nat.strongRecOn with
  | _ b ih =>
    intro a
    by_cases hz : b = 0
    · subst hz
      refine ⟨1, ?_⟩
      have := hc a 0
      simp only [Int.natCast_zero] at this
      simp [whN, this]
    · have hp : 0 < b := by omega
      obtain ⟨n, e⟩ := ih (a % b) (Nat.mod_lt _ hp) b
      refine ⟨n + 1, ?_⟩
      rw [Nat.gcd_comm, ← Nat.gcd_rec, Nat.gcd_comm] at e
      simp [whN, hc a b, hb a b hp, hp]
      simpa using e
theorem s_law_divisor : S_gcd (run Δ gl F_law_divisor) := by
  intro a b h
  obtain ⟨n, e⟩ := gcd_loop (h := h) (c := fun ρ h => (ev Δ gl (.cmp .Gt (.var 1) (.int 0)) ρ h).bind asBl) (bd := fun ρ h => exs Δ gl (.cons (.asg (.tup (.cons (.nm 0) (.cons (.nm 1) .nil))) (.tup (.cons (.var 1) (.cons (.bin .mod (.blt .int (.cons (.var 0) .nil)) (.var 1)) .nil)))) .nil) ρ h)
    (fun a b => by simp [ev, cmpD, asBl]) (fun a b hb => by
      have hb0 : b ≠ 0 := by omega
      have e : Int.fmod (a : Int) (b : Int) = ((a % b : Nat) : Int) := by rw [Int.fmod_eq_emod_of_nonneg _ (by omega)]; simp
      simp [exs, ex, ev, evs, asn, asns, bltD, bop, hb0, lineOk, sizeLine, R.calm, List.set, e]) b.natAbs a.natAbs
  have w := whL_of e
  have ab : ∀ x : Int, (if x < 0 then -x else x) = ((x.natAbs : Nat) : Int) := fun x => by split <;> omega
  simp [run, F_law_divisor, B_law_divisor, exs, ex, ev, evs, asn, asns, bltD, lineOk, sizeLine, R.calm, List.set, ab]
  simp [exs, ex, ev, evs, asn, asns, bltD, lineOk, sizeLine, R.calm, List.set, ab] at w
  simp [w, Int.gcd]
  exact tidy_self rfl
theorem s_law_frac {i : Nat} (hd : S_gcd (Δ i)) : S_with (run Δ gl (F_law_frac i)) := by
  intro a b B h h0 hb hB
  have g0 : ((Int.gcd a b : Nat) : Int) ≠ 0 := by
    intro z
    exact h0 (Int.gcd_eq_zero_iff.mp (Int.ofNat.inj z)).2
  have hg := gcd_bt (a := a) hb h0
  have p1 := fun x => pylong_of (a := x) hg hB
  have p2 := fun x => pylong_of (a := x) hg.neg hB
  rw [fr_divInt h0]
  by_cases hp : 0 < b
  · simp [run, F_law_frac, B_law_frac, exs, ex, ev, evs, asn, R.calm, hd a b h, cmpD, bop, hp, p1, g0, h0, lineOk, sizeLine, List.set, tidy_self]
  · simp [run, F_law_frac, B_law_frac, exs, ex, ev, evs, asn, R.calm, hd a b h, cmpD, bop, hp, p2, g0, h0, lineOk, sizeLine, List.set, tidy_self]
theorem s_law_add {i : Nat} (hw : S_with (Δ i)) : S_op (· + ·) (run Δ gl (F_law_add i)) := s_ratio_sum hw
theorem s_law_sub {i : Nat} (hw : S_with (Δ i)) : S_op (· - ·) (run Δ gl (F_law_sub i)) := s_ratio_less hw
theorem s_law_mul {i : Nat} (hw : S_with (Δ i)) : S_op (· * ·) (run Δ gl (F_law_mul i)) := s_ratio_product hw
theorem s_law_div {i : Nat} (hw : S_with (Δ i)) : S_over (run Δ gl (F_law_div i)) := s_ratio_over hw
/-- change * x >= 1 -/
def S_lost (f : Fn) : Prop := ∀ (c x : Rat) (B C : Nat) h, Sz B c → Sz C x → B + C ≤ 8999 → f [fr c, fr x] h = .ok (.bl (decide (1 ≤ c * x))) h
theorem one_le_mul (c x : Rat) : 1 ≤ c * x ↔ c.den * x.den ≤ c.num * x.num := by
  have h1 : (0 : Rat) < ((c.den * x.den : Int) : Rat) := by
    have := Int.mul_pos (den_pos' c) (den_pos' x)
    exact_mod_cast this
  have e : c * x = ((c.num * x.num : Int) : Rat) / ((c.den * x.den : Int) : Rat) := by
    rw [mul_eq]
    exact Rat.divInt_eq_div _ _
  rw [e, ← Rat.not_lt, Rat.div_lt_iff h1, Rat.one_mul, Rat.intCast_lt_intCast]
  omega
theorem s_law_is_lost : S_lost (run Δ gl F_law_is_lost) := by
  intro c x B C h hc hx hB
  have m1 : mulOk c.num x.num = true := mulOk_of hc.1 hx.1 (by omega)
  have m2 : mulOk c.den x.den = true := mulOk_of hc.2 hx.2 (by omega)
  simp [run, F_law_is_lost, B_law_is_lost, exs, ex, ev, evs, fr, ixD, bop, cmpD, m1, m2, one_le_mul]
  exact tidy_self rfl
theorem sz_divInt {a b : Int} {B : Nat} (h0 : b ≠ 0) (ha : Bt B a) (hb : Bt B b) : Sz B (Rat.divInt a b) := by
  constructor
  · unfold Bt at *
    rw [Rat.num_divInt]
    have d : ((b.gcd a : Nat) : Int) ∣ b.sign * a := Int.dvd_mul_of_dvd_right (Int.gcd_dvd_right b a)
    have := Int.natAbs_ediv_of_dvd d
    rw [this, Int.natAbs_mul, Int.natAbs_sign_of_ne_zero h0, Nat.one_mul]
    exact Nat.lt_of_le_of_lt (Nat.div_le_self _ _) ha
  · unfold Bt at *
    rw [Rat.den_divInt, if_neg h0, Int.natAbs_natCast]
    exact Nat.lt_of_le_of_lt (Nat.div_le_self _ _) hb
theorem Sz.mono {B C : Nat} {q : Rat} (h : Sz B q) (l : B ≤ C) : Sz C q := ⟨h.1.mono l, h.2.mono l⟩
theorem Sz.mul {B C : Nat} {p q : Rat} (h : Sz B p) (g : Sz C q) : Sz (B + C) (p * q) := by
  rw [mul_eq]
  exact sz_divInt (dd_ne p q) (h.1.mul g.1) (h.2.mul g.2)
theorem Sz.add {B C : Nat} {p q : Rat} (h : Sz B p) (g : Sz C q) : Sz (B + C + 1) (p + q) := by
  rw [add_eq]
  exact sz_divInt (dd_ne p q) (((h.1.mul g.2).add (g.1.mul h.2)).mono (by omega)) ((h.2.mul g.2).mono (by omega))
theorem Sz.sub {B C : Nat} {p q : Rat} (h : Sz B p) (g : Sz C q) : Sz (B + C + 1) (p - q) := by
  rw [sub_eq]
  exact sz_divInt (dd_ne p q) (((h.1.mul g.2).sub (g.1.mul h.2)).mono (by omega)) ((h.2.mul g.2).mono (by omega))
theorem Sz.div {B C : Nat} {p q : Rat} (h : Sz B p) (g : Sz C q) (h0 : q ≠ 0) : Sz (B + C) (p / q) := by
  rw [div_eq]
  exact sz_divInt (Int.mul_ne_zero (den_ne p) (num_ne h0)) (h.1.mul g.2) (h.2.mul g.1)
theorem bt_of {B : Nat} {i : Int} (h : i.natAbs < 2 ^ B) : Bt B i := h
theorem sz1 : Sz 1 1 := ⟨bt_of (by decide), bt_of (by decide)⟩
theorem sz2 : Sz 2 2 := ⟨bt_of (by decide), bt_of (by decide)⟩
theorem s_is_lost_at {i j k : Nat} (hl : S_lower (Δ i)) (hm : S_op (· * ·) (Δ j)) (hg : gl k = fr 1) : S_lost (run Δ gl (F_is_lost_at i j k)) := by
  intro c x B C h hc hx hB
  have a := hm c x B C h hc hx hB
  have b := hl (c * x) 1 (B + C) 1 h (hc.mul hx) sz1 (by omega)
  simp [run, F_is_lost_at, B_is_lost_at, exs, ex, ev, evs, a, hg, b, ← Rat.not_lt]
  exact tidy_self rfl
end
end HS

/-! The next error, the checks. -/
namespace HS
open PySem L2
/-- the error's next part, the next error -/
def prt (c e : Rat) : Rat := c * e * e / (2 * (1 - c * e))
def nxt (c r e : Rat) : Rat := prt c e + r
theorem cast_num (q : Rat) : q = (q.num : Rat) / ((q.den : Int) : Rat) := by
  rw [← Rat.divInt_eq_div, Rat.num_divInt_den]
theorem cast_ne {i : Int} (h : i ≠ 0) : (i : Rat) ≠ 0 := fun z => h (Rat.intCast_eq_zero_iff.mp z)
theorem one_sub_ne {c e : Rat} (h : c * e ≠ 1) : 1 - c * e ≠ 0 := fun z => h (by grind)
theorem two_ne {c e : Rat} (h : c * e ≠ 1) : 2 * (1 - c * e) ≠ 0 := fun z => h (by grind)
theorem prt_key1 (p q n d : Rat) (hq : q ≠ 0) (hd : d ≠ 0) (h : p / q * (n / d) ≠ 1) : q * d - p * n ≠ 0 := by
  intro z
  apply h
  grind
theorem prt_key2 (p q n d : Rat) (hq : q ≠ 0) (hd : d ≠ 0) (h : q * d - p * n ≠ 0) : p / q * (n / d) * (n / d) / (2 * (1 - p / q * (n / d))) = p * n * n / (2 * d * (q * d - p * n)) := by
  have e1 : 1 - p / q * (n / d) = (q * d - p * n) / (q * d) := by grind
  rw [e1]
  grind
theorem prt_eq {c e : Rat} (h : c * e ≠ 1) : (c.den : Int) * e.den - c.num * e.num ≠ 0 ∧ prt c e = Rat.divInt (c.num * e.num * e.num) (2 * (e.den * (c.den * e.den - c.num * e.num))) := by
  have h1 := cast_ne (den_ne c)
  have h2 := cast_ne (den_ne e)
  have hc := cast_num c
  have he := cast_num e
  have hx : ((c.num : Int) : Rat) / ((c.den : Int) : Rat) * (((e.num : Int) : Rat) / ((e.den : Int) : Rat)) ≠ 1 := by rw [← hc, ← he]; exact h
  have k1 := prt_key1 _ _ _ _ h1 h2 hx
  have k2 := prt_key2 _ _ _ _ h1 h2 k1
  rw [← hc, ← he] at k2
  constructor
  · intro z
    apply k1
    have := congrArg (fun i : Int => (i : Rat)) z
    simpa using this
  · rw [Rat.divInt_eq_div]
    unfold prt
    rw [k2]
    simp only [Rat.intCast_mul, Rat.intCast_sub, Rat.intCast_ofNat]
    rw [← Rat.mul_assoc]
theorem Bt.two {B : Nat} {i : Int} (h : Bt B i) : Bt (B + 1) (2 * i) := by unfold Bt at *; rw [Nat.pow_succ]; omega
theorem sz_prt {c e : Rat} {B : Nat} (hc : Sz 4 c) (he : Sz B e) (h : c * e ≠ 1) : Sz (2 * B + 6) (prt c e) := by
  obtain ⟨h1, h2⟩ := prt_eq h
  rw [h2]
  exact sz_divInt (Int.mul_ne_zero (by decide) (Int.mul_ne_zero (den_ne e) h1)) (((hc.1.mul he.1).mul he.1).mono (by omega)) ((he.2.mul ((hc.2.mul he.2).sub (hc.1.mul he.1))).two.mono (by omega))
theorem sz_nxt {c r e : Rat} {B : Nat} (hc : Sz 4 c) (hr : Sz 24 r) (he : Sz B e) (h : c * e ≠ 1) : Sz (2 * B + 31) (nxt c r e) := by
  have z := (sz_prt hc he h).add hr
  exact z.mono (by omega)
def S_next (f : Fn) : Prop := ∀ (c r e : Rat) (B : Nat) h, Sz 4 c → Sz 24 r → Sz B e → B ≤ 2977 → c * e ≠ 1 → f [fr c, fr r, fr e] h = .ok (fr (nxt c r e)) h
section
variable {Δ : Nat → Fn} {gl : Nat → D}
theorem s_next_error {i j k l m o : Nat} (hm : S_op (· * ·) (Δ i)) (hd : S_over (Δ j)) (g2 : gl k = fr 2) (hs : S_op (· - ·) (Δ l)) (g1 : gl m = fr 1) (ha : S_op (· + ·) (Δ o)) : S_next (run Δ gl (F_next_error i j k l m o)) := by
  intro c r e B h hc hr he hB h1
  have z1 := hc.mul he
  have a1 := fun h => hm c e 4 B h hc he (by omega)
  have a2 := fun h => hm (c * e) e (4 + B) B h z1 he (by omega)
  have z3 := sz1.sub z1
  have a3 := fun h => hs 1 (c * e) 1 (4 + B) h sz1 z1 (by omega)
  have a4 := fun h => hm 2 (1 - c * e) 2 _ h sz2 z3 (by omega)
  have a5 := fun h => hd (c * e * e) (2 * (1 - c * e)) _ _ h (z1.mul he) (sz2.mul z3) (by omega) (two_ne h1)
  have a6 := fun h => ha (prt c e) r _ 24 h (sz_prt hc he h1) hr (by omega)
  unfold prt at a6
  simp [run, F_next_error, B_next_error, exs, ex, ev, evs, asn, R.calm, List.set, g1, g2, a1, a2, a3, a4, a5, a6]
  exact tidy_self (fr_flat _)
theorem fr_two : D.tup [.int 2, .int 1] = fr 2 := rfl
theorem fr_one : D.tup [.int 1, .int 1] = fr 1 := rfl
theorem s_law_led {i j k l : Nat} (hm : S_op (· * ·) (Δ i)) (ha : S_op (· + ·) (Δ j)) (hd : S_over (Δ k)) (hs : S_op (· - ·) (Δ l)) : S_next (run Δ gl (F_law_led i j k l)) := by
  intro c r e B h hc hr he hB h1
  have z1 := hc.mul he
  have a1 := fun h => hm c e 4 B h hc he (by omega)
  have a2 := fun h => hm (c * e) e (4 + B) B h z1 he (by omega)
  have z3 := sz1.sub z1
  have a3 := fun h => hs 1 (c * e) 1 (4 + B) h sz1 z1 (by omega)
  have a4 := fun h => hm 2 (1 - c * e) 2 _ h sz2 z3 (by omega)
  have a5 := fun h => hd (c * e * e) (2 * (1 - c * e)) _ _ h (z1.mul he) (sz2.mul z3) (by omega) (two_ne h1)
  have a6 := fun h => ha (prt c e) r _ 24 h (sz_prt hc he h1) hr (by omega)
  unfold prt at a6
  simp [run, F_law_led, B_law_led, exs, ex, ev, evs, asn, R.calm, List.set, lineOk, sizeLine, fr_two, fr_one, a1, a2, a3, a4, a5, a6]
  exact tidy_self (fr_flat _)
/-! ### checks -/
def S_pos (f : Fn) : Prop := ∀ (q : Rat) h, 0 < q.num → f [fr q] h = .ok .non h
def S_nneg (f : Fn) : Prop := ∀ (q : Rat) h, 0 ≤ q.num → f [fr q] h = .ok .non h
theorem s_check_change {i : Nat} (hr : S_ratio (Δ i)) : S_pos (run Δ gl (F_check_change i)) := by
  intro q h hq
  have r := hr q h
  unfold fr at r
  have : ¬ q.num ≤ 0 := by omega
  simp [run, F_check_change, B_check_change, exs, ex, ev, evs, fr, r, asBl, ixD, cmpD, this]
  exact tidy_self rfl
theorem s_check_gap {i : Nat} (hr : S_ratio (Δ i)) : S_pos (run Δ gl (F_check_gap i)) := s_check_change hr
theorem s_check_first {i : Nat} (hr : S_ratio (Δ i)) : S_nneg (run Δ gl (F_check_first i)) := by
  intro q h hq
  have r := hr q h
  unfold fr at r
  have : ¬ q.num < 0 := by omega
  simp [run, F_check_first, B_check_first, exs, ex, ev, evs, fr, r, asBl, ixD, cmpD, this]
  exact tidy_self rfl
def S_rounding (f : Fn) : Prop := ∀ (c q : Rat) h, Sz 4 c → Sz 24 q → 0 ≤ q.num → c * q < 1 → f [fr c, fr q] h = .ok .non h
theorem s_check_rounding {i j : Nat} (hr : S_ratio (Δ i)) (hl : S_lost (Δ j)) : S_rounding (run Δ gl (F_check_rounding i j)) := by
  intro c q h hc hq h0 h1
  have r := hr q h
  have l := hl c q 4 24 h hc hq (by omega)
  have e : ¬ 1 ≤ c * q := Rat.not_le.mpr h1
  rw [decide_eq_false e] at l
  unfold fr at r l
  have : ¬ q.num < 0 := by omega
  simp [run, F_check_rounding, B_check_rounding, exs, ex, ev, evs, fr, r, l, asBl, ixD, cmpD, this]
  exact tidy_self rfl
def S_start (f : Fn) : Prop := ∀ (c r e : Rat) h, Sz 4 c → Sz 24 r → 0 < c.num → 0 ≤ r.num → c * r < 1 → 0 ≤ e.num → f [fr c, fr r, fr e] h = .ok .non h
theorem s_check_start {i j k : Nat} (hc : S_pos (Δ i)) (hr : S_rounding (Δ j)) (hf : S_nneg (Δ k)) : S_start (run Δ gl (F_check_start i j k)) := by
  intro c r e h s1 s2 h1 h2 h3 h4
  simp [run, F_check_start, B_check_start, exs, ex, ev, evs, hc c h h1, hr c r h s1 s2 h2 h3, hf e h h4]
  exact tidy_self rfl
end
end HS

/-! Urns. -/
namespace HS
open PySem L2
/-- an urn's three numbers; the last one counts -/
def Ur (N : Nat) (xs : List D) : Prop := ∃ a b c : Int, xs = [.int a, .int b, .int c] ∧ 0 ≤ a ∧ 0 ≤ b ∧ b < 2147483648 ∧ 0 ≤ c ∧ c ≤ N
def UAt (n N : Nat) (h : Hh) : Prop := ∃ xs, h[n]? = some (.lst xs) ∧ Ur N xs
/-- the urn moves on, all else stays -/
structure Up (n N : Nat) (h h' : Hh) : Prop where
  at_ : UAt n N h'
  len : h.length ≤ h'.length
  oth : ∀ k, k ≠ n → k < h.length → h'[k]? = h[k]?
theorem UAt.mono {n N M : Nat} {h : Hh} (x : UAt n N h) (l : N ≤ M) : UAt n M h := by
  obtain ⟨xs, e, a, b, c, e2, h1, h2, h3, h4, h5⟩ := x
  exact ⟨xs, e, a, b, c, e2, h1, h2, h3, h4, by omega⟩
theorem UAt.lt {n N : Nat} {h : Hh} (x : UAt n N h) : n < h.length := by
  obtain ⟨xs, e, _⟩ := x
  exact (List.getElem?_eq_some_iff.mp e).1
theorem Up.refl {n N : Nat} {h : Hh} (x : UAt n N h) : Up n N h h := ⟨x, Nat.le_refl _, fun _ _ _ => rfl⟩
theorem Up.trans {n N M : Nat} {h h' h'' : Hh} (x : Up n N h h') (y : Up n M h' h'') : Up n M h h'' :=
  ⟨y.at_, Nat.le_trans x.len y.len, fun k hk hl => (y.oth k hk (Nat.lt_of_lt_of_le hl x.len)).trans (x.oth k hk hl)⟩
theorem Up.mono {n N M : Nat} {h h' : Hh} (x : Up n N h h') (l : N ≤ M) : Up n M h h' := ⟨x.at_.mono l, x.len, x.oth⟩
theorem Up.set {n N : Nat} {h : Hh} {xs : List D} (hl : n < h.length) (u : Ur N xs) : Up n N h (h.set n (.lst xs)) :=
  ⟨⟨xs, by rw [List.getElem?_set_self hl], u⟩, by simp, fun k hk _ => by rw [List.getElem?_set_ne (Ne.symm hk)]⟩
theorem tidy_up {n N M : Nat} {d : D} {h h' : Hh} (f : d.flat = true) (a : UAt n N h) (l : N ≤ M) (u : Up n M h h') : ∃ h2, tidy h d h' = .ok d h2 ∧ Up n M h h2 := by
  rcases tidy_flat (h := h) (h' := h') f with e | e
  · exact ⟨h, e, .refl (a.mono l)⟩
  · exact ⟨h', e, u⟩
def S_nip (f : Fn) : Prop := ∀ (n N : Nat) (m : Int) h, UAt n N h → N ≤ 1000000 → 0 < m → m < 1000000 → ∃ v h', f [.ref n, .int m] h = .ok (.int v) h' ∧ 0 ≤ v ∧ v < m ∧ Up n (N + 1) h h'
theorem bt31 {b : Int} (h0 : 0 ≤ b) (h1 : b < 2147483648) : Bt 31 b := by unfold Bt; omega
theorem bt21 {b : Int} (h0 : 0 ≤ b) (h1 : b < 2097152) : Bt 21 b := by unfold Bt; omega
section
variable {Δ : Nat → Fn} {gl : Nat → D}
set_option maxHeartbeats 1000000 in
theorem s_law_nip : S_nip (run Δ gl F_law_nip) := by
  intro n N m h ⟨xs, e, a, b, c, ex0, ha, hb1, hb2, hc1, hc2⟩ hN hm1 hm2
  subst ex0
  have hl : n < h.length := (List.getElem?_eq_some_iff.mp e).1
  have hm0 : m ≠ 0 := by omega
  by_cases h0 : 0 < a
  · have up : Up n (N + 1) h (h.set n (.lst [.int (a / m), .int b, .int c])) := .set hl ⟨a / m, b, c, rfl, Int.ediv_nonneg ha (by omega), hb1, hb2, hc1, by omega⟩
    obtain ⟨h2, t1, t2⟩ := tidy_up (d := .int (a % m)) rfl ⟨_, e, a, b, c, rfl, ha, hb1, hb2, hc1, hc2⟩ (Nat.le_succ N) up
    refine ⟨a % m, h2, ?_, Int.emod_nonneg _ hm0, Int.emod_lt_of_pos _ hm1, t2⟩
    have hm3 : m < 1073741824 := by omega
    simp [run, F_law_nip, B_law_nip, exs, ex, ev, evs, asn, asns, asBl, listAt, e, ixD, cmpD, h0, bltD, hm1, hm3, setI, ixN, List.set, R.calm, t1]
  · have c1 : 0 ≤ c + 1 := by omega
    have hs : ∀ z, (h.set n z)[n]? = some z := fun z => List.getElem?_set_self hl
    have m1 : mulOk b 41299 = true := mulOk_of (bt31 hb1 hb2) (bt_of (B := 16) (by decide)) (by decide)
    have m2 : mulOk (c + 1) 50951 = true := mulOk_of (bt21 c1 (by omega)) (bt_of (B := 16) (by decide)) (by decide)
    generalize el : Int.fmod (b * 41299 + (c + 1) * 50951 + 23) 2147483423 = lap
    have l1 : 0 ≤ lap := by rw [← el]; exact Int.fmod_nonneg_of_pos _ (by decide)
    have l2 : lap < 2147483423 := by rw [← el]; exact Int.fmod_lt_of_pos _ (by decide)
    have q1 : Bt 31 (Int.fdiv lap 37) := by
      rw [Int.fdiv_eq_ediv_of_nonneg _ (by decide)]
      exact bt31 (Int.ediv_nonneg l1 (by decide)) (by omega)
    have m3 : mulOk 2 (Int.fdiv lap 37) = true := mulOk_of (bt_of (B := 2) (by decide)) q1 (by decide)
    have q2 : Bt 33 (2 * Int.fdiv lap 37 + 20011) := ((q1.two).add (bt_of (B := 32) (i := 20011) (by decide))).mono (by decide)
    have m4 : mulOk lap (2 * Int.fdiv lap 37 + 20011) = true := mulOk_of (bt31 l1 (by omega)) q2 (by decide)
    generalize eb : Int.fmod (lap * (2 * Int.fdiv lap 37 + 20011) + (c + 1)) 2147483423 = b2
    have b1' : 0 ≤ b2 := by rw [← eb]; exact Int.fmod_nonneg_of_pos _ (by decide)
    have b2' : b2 < 2147483423 := by rw [← eb]; exact Int.fmod_lt_of_pos _ (by decide)
    have p1 : ∀ x, Builtin.divisionGoesByPylong x 37 = false := fun x => pylong_of (B := 6) (bt_of (by decide)) (by decide)
    have p2 : ∀ x, Builtin.divisionGoesByPylong x 103 = false := fun x => pylong_of (B := 7) (bt_of (by decide)) (by decide)
    have up : Up n (N + 1) h (h.set n (.lst [.int a, .int b2, .int (c + 1)])) := .set hl ⟨a, b2, c + 1, rfl, ha, b1', by omega, c1, by omega⟩
    obtain ⟨h2, t1, t2⟩ := tidy_up (d := .int (Int.fmod (Int.fdiv b2 103) m)) rfl ⟨_, e, a, b, c, rfl, ha, hb1, hb2, hc1, hc2⟩ (Nat.le_succ N) up
    refine ⟨Int.fmod (Int.fdiv b2 103) m, h2, ?_, Int.fmod_nonneg_of_pos _ hm1, Int.fmod_lt_of_pos _ hm1, t2⟩
    simp [run, F_law_nip, B_law_nip, exs, ex, ev, evs, asn, asns, asBl, listAt, e, hs, ixD, cmpD, h0, bltD, bop, hm0, setI, ixN, List.set, R.calm, m1, m2, el, p1, m3, m4, eb, p2, t1]
end
end HS

/-! The pulls' worlds. -/
namespace HS
open PySem L2
def B_law_world (f__law_frac f__law_nip f__law_any_of f__law_div : Nat) : Ss :=
  (.cons (.asg (.nm 1) (.call f__law_frac (.cons (.bin .add (.int 1) (.call f__law_nip (.cons (.var 0) (.cons (.int 12) .nil)))) (.cons (.bin .add (.int 1) (.call f__law_nip (.cons (.var 0) (.cons (.int 9) .nil)))) .nil)))) 
  (.cons (.asg (.nm 2) (.call f__law_any_of (.cons (.var 0) (.cons (.tup (.cons (.tup (.cons (.int 0) (.cons (.int 1) .nil))) (.cons (.tup (.cons (.int 0) (.cons (.int 1) .nil))) (.cons (.tup (.cons (.int 1) (.cons (.int 4) .nil))) (.cons (.tup (.cons (.int 4) (.cons (.int 15) .nil))) (.cons (.tup (.cons (.int 5) (.cons (.int 24) .nil))) (.cons (.tup (.cons (.int 15) (.cons (.int 56) .nil))) (.cons (.tup (.cons (.int 7) (.cons (.int 40) .nil))) (.cons (.tup (.cons (.int 1) (.cons (.int 10) .nil))) (.cons (.tup (.cons (.int 1) (.cons (.int 100) .nil))) .nil)))))))))) .nil)))) 
  (.cons (.asg (.nm 3) (.call f__law_nip (.cons (.var 0) (.cons (.int 6) .nil)))) 
  (.cons (.ife (.cmp .Eq (.var 3) (.int 0)) (
    (.cons (.asg (.nm 2) (.call f__law_frac (.cons (.call f__law_nip (.cons (.var 0) (.cons (.int 30) .nil))) (.cons (.int 30) .nil)))) .nil)) (.nil)) 
  (.cons (.ife (.cmp .Eq (.var 3) (.int 1)) (
    (.cons (.asg (.nm 2) (.call f__law_any_of (.cons (.var 0) (.cons (.tup (.cons (.tup (.cons (.int 26794) (.cons (.bin .pow (.int 10) (.int 5)) .nil))) (.cons (.tup (.cons (.int 26795) (.cons (.bin .pow (.int 10) (.int 5)) .nil))) (.cons (.tup (.cons (.int 267949) (.cons (.bin .pow (.int 10) (.int 6)) .nil))) (.cons (.tup (.cons (.int 26795) (.cons (.int 99999) .nil))) .nil))))) .nil)))) .nil)) (.nil)) 
  (.cons (.ret (.tup (.cons (.var 1) (.cons (.call f__law_div (.cons (.var 2) (.cons (.var 1) .nil))) .nil)))) .nil))))))
def F_law_world (f__law_frac f__law_nip f__law_any_of f__law_div : Nat) : Df := ⟨1, 4, B_law_world f__law_frac f__law_nip f__law_any_of f__law_div⟩
def B_law_first (f__law_nip f__law_frac f__law_any_of f__law_div : Nat) : Ss :=
  (.cons (.asg (.nm 2) (.call f__law_nip (.cons (.var 0) (.cons (.int 6) .nil)))) 
  (.cons (.ife (.cmp .Eq (.var 2) (.int 0)) (
    (.cons (.ret (.call f__law_frac (.cons (.call f__law_nip (.cons (.var 0) (.cons (.int 20) .nil))) (.cons (.bin .add (.int 1) (.call f__law_nip (.cons (.var 0) (.cons (.int 6) .nil)))) .nil)))) .nil)) (.nil)) 
  (.cons (.asg (.nm 3) (.call f__law_any_of (.cons (.var 0) (.cons (.tup (.cons (.tup (.cons (.int 0) (.cons (.int 1) .nil))) (.cons (.tup (.cons (.int 2) (.cons (.int 3) .nil))) (.cons (.tup (.cons (.int 2) (.cons (.int 3) .nil))) (.cons (.tup (.cons (.int 1) (.cons (.int 2) .nil))) (.cons (.tup (.cons (.int 1) (.cons (.int 3) .nil))) (.cons (.tup (.cons (.int 3) (.cons (.int 5) .nil))) (.cons (.tup (.cons (.int 3) (.cons (.int 4) .nil))) (.cons (.tup (.cons (.int 9) (.cons (.int 10) .nil))) (.cons (.tup (.cons (.int 1) (.cons (.int 1) .nil))) .nil)))))))))) .nil)))) 
  (.cons (.ife (.cmp .Eq (.var 2) (.int 1)) (
    (.cons (.asg (.nm 3) (.call f__law_frac (.cons (.bin .add (.int 2000) (.call f__law_any_of (.cons (.var 0) (.cons (.tup (.cons (.int 1) (.cons (.neg (.int 1)) .nil))) .nil)))) (.cons (.int 3000) .nil)))) .nil)) (.nil)) 
  (.cons (.ife (.cmp .Gt (.var 2) (.int 3)) (
    (.cons (.asg (.nm 3) (.call f__law_frac (.cons (.call f__law_nip (.cons (.var 0) (.cons (.int 60) .nil))) (.cons (.int 60) .nil)))) .nil)) (.nil)) 
  (.cons (.ret (.call f__law_div (.cons (.var 3) (.cons (.var 1) .nil)))) .nil))))))
def F_law_first (f__law_nip f__law_frac f__law_any_of f__law_div : Nat) : Df := ⟨2, 4, B_law_first f__law_nip f__law_frac f__law_any_of f__law_div⟩
theorem atI_in {xs : List D} {v : Int} (h0 : 0 ≤ v) (h1 : v < xs.length) : ∃ d ∈ xs, atI xs v = some d := by
  obtain ⟨k, rfl⟩ := Int.eq_ofNat_of_zero_le h0
  have hk : k < xs.length := by omega
  refine ⟨xs[k], List.getElem_mem hk, ?_⟩
  have : ixN xs.length (k : Int) = some k := by
    unfold ixN
    simp
    omega
  unfold atI
  rw [this]
  simp [hk]
def S_any (f : Fn) : Prop := ∀ (n N : Nat) (xs : List D) h, UAt n N h → N ≤ 1000000 → xs ≠ [] → xs.length < 1000000 → (∀ d ∈ xs, d.flat = true) → ∃ d ∈ xs, ∃ h', f [.ref n, .tup xs] h = .ok d h' ∧ Up n (N + 1) h h'
def S_anyL (f : Fn) : Prop := ∀ (n N m : Nat) (xs : List D) h, UAt n N h → N ≤ 1000000 → m ≠ n → h[m]? = some (.lst xs) → xs ≠ [] → xs.length < 1000000 → (∀ d ∈ xs, d.flat = true) → ∃ d ∈ xs, ∃ h', f [.ref n, .ref m] h = .ok d h' ∧ Up n (N + 1) h h'
def S_div2 (f : Fn) : Prop := ∀ (a b : Int) (q : Rat) (B C : Nat) h, b ≠ 0 → Bt B a → Bt B b → Sz C q → B + C ≤ 8999 → q ≠ 0 → f [.tup [.int a, .int b], fr q] h = .ok (fr (Rat.divInt a b / q)) h
section
variable {Δ : Nat → Fn} {gl : Nat → D}
theorem s_law_any_of {i : Nat} (hn : S_nip (Δ i)) : S_any (run Δ gl (F_law_any_of i)) := by
  intro n N xs h ua hN hx hl hf
  have l0 : 0 < xs.length := List.length_pos_iff.mpr hx
  obtain ⟨v, h', e, v0, v1, up⟩ := hn n N xs.length h ua hN (by omega) (by omega)
  obtain ⟨d, dm, ed⟩ := atI_in v0 v1
  obtain ⟨h2, t1, t2⟩ := tidy_up (d := d) (hf d dm) ua (Nat.le_succ N) up
  refine ⟨d, dm, h2, ?_, t2⟩
  simp [run, F_law_any_of, B_law_any_of, exs, ex, ev, evs, bltD, e, ixD, ed, t1]
theorem s_law_any_ofL {i : Nat} (hn : S_nip (Δ i)) : S_anyL (run Δ gl (F_law_any_of i)) := by
  intro n N m xs h ua hN hm hx0 hx hl hf
  have l0 : 0 < xs.length := List.length_pos_iff.mpr hx
  obtain ⟨v, h', e, v0, v1, up⟩ := hn n N xs.length h ua hN (by omega) (by omega)
  obtain ⟨d, dm, ed⟩ := atI_in v0 v1
  obtain ⟨h2, t1, t2⟩ := tidy_up (d := d) (hf d dm) ua (Nat.le_succ N) up
  have ml : m < h.length := (List.getElem?_eq_some_iff.mp hx0).1
  have hx1 := (up.oth m hm ml).trans hx0
  refine ⟨d, dm, h2, ?_, t2⟩
  simp [run, F_law_any_of, B_law_any_of, exs, ex, ev, evs, bltD, listAt, hx0, hx1, e, ixD, ed, t1]
theorem div2_eq (a b : Int) (q : Rat) (hb : b ≠ 0) (hq : q ≠ 0) : Rat.divInt a b / q = Rat.divInt (a * q.den) (b * q.num) := by
  conv => lhs; rw [← Rat.num_divInt_den q]
  rw [Rat.div_def, Rat.inv_divInt, Rat.divInt_mul_divInt]
theorem s_law_div2 {i : Nat} (hw : S_with (Δ i)) : S_div2 (run Δ gl (F_law_div i)) := by
  intro a b q B C h h0 ha hb hq hB hq0
  have m1 : mulOk a q.den = true := mulOk_of ha hq.2 (by omega)
  have m3 : mulOk b q.num = true := mulOk_of hb hq.1 (by omega)
  have w := hw (a * q.den) (b * q.num) (B + C) h (Int.mul_ne_zero h0 (num_ne hq0)) (hb.mul hq.1) hB
  simp [run, F_law_div, B_law_div, exs, ex, ev, evs, fr, ixD, bop, m1, m3, w]
  rw [← div2_eq a b q h0 hq0]
  exact tidy_self (fr_flat _)
end
/-- a change, a rounding -/
structure Wd (c r : Rat) : Prop where
  sc : Sz 4 c
  sr : Sz 24 r
  cp : 0 < c.num
  rp : 0 ≤ r.num
  cr : c * r < 1
  pr : Sz 20 (c * r)
theorem Wd.c0 {c r : Rat} (w : Wd c r) : c ≠ 0 := fun z => by have := w.cp; rw [z] at this; exact absurd this (by decide)
theorem divInt_pos {a b : Int} (ha : 0 < a) (hb : 0 < b) : 0 < (Rat.divInt a b).num := by
  rw [Rat.num_divInt, Int.sign_eq_one_of_pos hb, Int.one_mul]
  have d : ((b.gcd a : Nat) : Int) ∣ a := Int.gcd_dvd_right b a
  have g : (0 : Int) < (b.gcd a : Nat) := by
    have : b.gcd a ≠ 0 := fun z => by have := (Int.gcd_eq_zero_iff.mp z).1; omega
    omega
  exact Int.ediv_pos_of_pos_of_dvd ha (Int.le_of_lt g) d
theorem divInt_nn {a b : Int} (ha : 0 ≤ a) (hb : 0 < b) : 0 ≤ (Rat.divInt a b).num := by
  rw [Rat.num_divInt, Int.sign_eq_one_of_pos hb, Int.one_mul]
  exact Int.ediv_nonneg ha (by omega)
theorem rounding_ok {c : Rat} {a b : Int} (sc : Sz 4 c) (cp : 0 < c.num) (ha : 0 ≤ a) (hab : a < b) (hb : b < 1048576) : Wd c (Rat.divInt a b / c) := by
  have b0 : b ≠ 0 := by omega
  have c0 : c ≠ 0 := fun z => by rw [z] at cp; exact absurd cp (by decide)
  have s : Sz 20 (Rat.divInt a b) := sz_divInt b0 (by unfold Bt; omega) (by unfold Bt; omega)
  have cpos : 0 < c := by
    rw [Rat.lt_iff]
    simpa using cp
  have p0 : 0 ≤ Rat.divInt a b := Rat.num_nonneg.mp (divInt_nn ha (by omega))
  have p1 : Rat.divInt a b < 1 := by
    rw [Rat.divInt_eq_div, Rat.div_lt_iff (Rat.intCast_pos.mpr (by omega)), Rat.one_mul, Rat.intCast_lt_intCast]
    exact hab
  have ce : c * (Rat.divInt a b / c) = Rat.divInt a b := by grind
  refine ⟨sc, s.div sc c0, cp, Rat.num_nonneg.mpr ?_, ?_, by rw [ce]; exact s⟩
  · rw [Rat.div_def]
    exact Rat.mul_nonneg p0 (Rat.le_of_lt (Rat.inv_pos.mpr cpos))
  · rw [ce]
    exact p1
end HS

/-! The pulls' worlds: how they are drawn. -/
namespace HS
open PySem L2
def S_world (f : Fn) : Prop := ∀ (n N : Nat) h, UAt n N h → N ≤ 900000 → ∃ c r h', Wd c r ∧ f [.ref n] h = .ok (.tup [fr c, fr r]) h' ∧ Up n (N + 6) h h'
def S_first (f : Fn) : Prop := ∀ (n N : Nat) (c : Rat) h, UAt n N h → N ≤ 900000 → Sz 4 c → 0 < c.num → ∃ e h', (Sz 16 e ∧ Sz 12 (c * e)) ∧ 0 ≤ e.num ∧ f [.ref n, fr c] h = .ok (fr e) h' ∧ Up n (N + 6) h h'
theorem bts {B : Nat} {i : Int} (h : i.natAbs < 2 ^ B) : Bt B i := h
/-- a part as it is drawn: a pair of whole numbers -/
def Prt (x : D) : Prop := ∃ a b : Int, x = .tup [.int a, .int b] ∧ 0 ≤ a ∧ a < b ∧ b < 1048576
theorem prt_div {Δf : Fn} (hd : S_div2 Δf) {x : D} (p : Prt x) {c : Rat} (sc : Sz 4 c) (cp : 0 < c.num) (h : Hh) : ∃ r, Wd c r ∧ Δf [x, fr c] h = .ok (fr r) h := by
  obtain ⟨a, b, rfl, h1, h2, h3⟩ := p
  have w := rounding_ok sc cp h1 h2 h3
  exact ⟨_, w, hd a b c 20 4 h (by omega) (by unfold Bt; omega) (by unfold Bt; omega) sc (by omega) w.c0⟩
theorem prt_fr {a b : Int} (h1 : 0 ≤ a) (h2 : a < b) (h3 : b < 1048576) : Prt (fr (Rat.divInt a b)) := by
  have b0 : b ≠ 0 := by omega
  have s : Sz 20 (Rat.divInt a b) := sz_divInt b0 (by unfold Bt; omega) (by unfold Bt; omega)
  have p1 : Rat.divInt a b < 1 := by
    rw [Rat.divInt_eq_div, Rat.div_lt_iff (Rat.intCast_pos.mpr (by omega)), Rat.one_mul, Rat.intCast_lt_intCast]
    exact h2
  refine ⟨_, _, rfl, divInt_nn h1 (by omega), ?_, ?_⟩
  · rw [Rat.lt_iff] at p1
    simpa using p1
  · have := s.2
    unfold Bt at this
    omega
section
variable {Δ : Nat → Fn} {gl : Nat → D}
set_option maxHeartbeats 2000000 in
theorem s_law_world {i j k l : Nat} (hw : S_with (Δ i)) (hn : S_nip (Δ j)) (ha : S_any (Δ k)) (hd : S_div2 (Δ l)) : S_world (run Δ gl (F_law_world i j k l)) := by
  intro n N h ua hN
  obtain ⟨v1, h1, e1, v1a, v1b, u1⟩ := hn n N 12 h ua (by omega) (by decide) (by decide)
  obtain ⟨v2, h2, e2, v2a, v2b, u2⟩ := hn n (N + 1) 9 h1 u1.at_ (by omega) (by decide) (by decide)
  have e3 := hw (1 + v1) (1 + v2) 4 h2 (by omega) (by unfold Bt; omega) (by decide)
  have sc : Sz 4 (Rat.divInt (1 + v1) (1 + v2)) := sz_divInt (by omega) (by unfold Bt; omega) (by unfold Bt; omega)
  have cp : 0 < (Rat.divInt (1 + v1) (1 + v2)).num := divInt_pos (by omega) (by omega)
  generalize Rat.divInt (1 + v1) (1 + v2) = c at e3 sc cp
  obtain ⟨x, xm, h4, e4, u4⟩ := ha n (N + 2) [.tup [.int 0, .int 1], .tup [.int 0, .int 1], .tup [.int 1, .int 4], .tup [.int 4, .int 15], .tup [.int 5, .int 24], .tup [.int 15, .int 56], .tup [.int 7, .int 40], .tup [.int 1, .int 10], .tup [.int 1, .int 100]] h2 u2.at_ (by omega) (by simp) (by simp) (by simp)
  have px : Prt x := by
    simp only [List.mem_cons, List.not_mem_nil, or_false] at xm
    rcases xm with rfl | rfl | rfl | rfl | rfl | rfl | rfl | rfl | rfl <;> exact ⟨_, _, rfl, by decide, by decide, by decide⟩
  obtain ⟨w, h5, e5, wa, wb, u5⟩ := hn n (N + 3) 6 h4 u4.at_ (by omega) (by decide) (by decide)
  have u15 := ((u1.trans u2).trans u4).trans u5
  by_cases w0 : w = 0
  · subst w0
    obtain ⟨v6, h6, e6, v6a, v6b, u6⟩ := hn n (N + 4) 30 h5 u5.at_ (by omega) (by decide) (by decide)
    have e7 := hw v6 30 5 h6 (by decide) (bts (by decide)) (by decide)
    obtain ⟨r, wd, e8⟩ := prt_div hd (prt_fr v6a v6b (by decide)) sc cp h6
    obtain ⟨h9, t1, t2⟩ := tidy_up (d := .tup [fr c, fr r]) (by simp [fr_flat]) ua (show N ≤ N + 6 by omega) ((u15.trans u6).mono (by omega))
    refine ⟨c, r, h9, wd, ?_, t2⟩
    simp [run, F_law_world, B_law_world, exs, ex, ev, evs, asn, asBl, R.calm, List.set, bop, cmpD, eqD, lineOk, sizeLine, e1, e2, e3, e4, e5, e6, e7, e8, t1]
  · by_cases w1 : w = 1
    · subst w1
      obtain ⟨x6, xm6, h6, e6, u6⟩ := ha n (N + 4) [.tup [.int 26794, .int 100000], .tup [.int 26795, .int 100000], .tup [.int 267949, .int 1000000], .tup [.int 26795, .int 99999]] h5 u5.at_ (by omega) (by simp) (by simp) (by simp)
      have px6 : Prt x6 := by
        simp only [List.mem_cons, List.not_mem_nil, or_false] at xm6
        rcases xm6 with rfl | rfl | rfl | rfl <;> exact ⟨_, _, rfl, by decide, by decide, by decide⟩
      obtain ⟨r, wd, e8⟩ := prt_div hd px6 sc cp h6
      obtain ⟨h9, t1, t2⟩ := tidy_up (d := .tup [fr c, fr r]) (by simp [fr_flat]) ua (show N ≤ N + 6 by omega) ((u15.trans u6).mono (by omega))
      refine ⟨c, r, h9, wd, ?_, t2⟩
      simp [run, F_law_world, B_law_world, exs, ex, ev, evs, asn, asBl, R.calm, List.set, bop, cmpD, eqD, lineOk, sizeLine, e1, e2, e3, e4, e5, e6, e8, t1]
    · obtain ⟨r, wd, e8⟩ := prt_div hd px sc cp h5
      obtain ⟨h9, t1, t2⟩ := tidy_up (d := .tup [fr c, fr r]) (by simp [fr_flat]) ua (show N ≤ N + 6 by omega) (u15.mono (by omega))
      refine ⟨c, r, h9, wd, ?_, t2⟩
      simp [run, F_law_world, B_law_world, exs, ex, ev, evs, asn, asBl, R.calm, List.set, bop, cmpD, eqD, lineOk, sizeLine, e1, e2, e3, e4, e5, e8, t1, w0, w1]
/-- a start's part as it is drawn -/
def Fst (x : D) : Prop := ∃ a b : Int, x = .tup [.int a, .int b] ∧ 0 ≤ a ∧ a < 4096 ∧ 0 < b ∧ b < 4096
theorem fst_div {Δf : Fn} (hd : S_div2 Δf) {x : D} (p : Fst x) {c : Rat} (sc : Sz 4 c) (cp : 0 < c.num) (h : Hh) : ∃ e, (Sz 16 e ∧ Sz 12 (c * e)) ∧ 0 ≤ e.num ∧ Δf [x, fr c] h = .ok (fr e) h := by
  obtain ⟨a, b, rfl, h1, h2, h3, h4⟩ := p
  have c0 : c ≠ 0 := fun z => by rw [z] at cp; exact absurd cp (by decide)
  have s : Sz 12 (Rat.divInt a b) := sz_divInt (by omega) (by unfold Bt; omega) (by unfold Bt; omega)
  have cpos : 0 < c := by
    rw [Rat.lt_iff]
    simpa using cp
  have ce : c * (Rat.divInt a b / c) = Rat.divInt a b := by grind
  refine ⟨Rat.divInt a b / c, ⟨s.div sc c0, by rw [ce]; exact s⟩, Rat.num_nonneg.mpr ?_, hd a b c 12 4 h (by omega) (by unfold Bt; omega) (by unfold Bt; omega) sc (by omega) c0⟩
  rw [Rat.div_def]
  exact Rat.mul_nonneg (Rat.num_nonneg.mp (divInt_nn h1 h3)) (Rat.le_of_lt (Rat.inv_pos.mpr cpos))
theorem fst_fr {a b : Int} (h1 : 0 ≤ a) (h2 : a < 4096) (h3 : 0 < b) (h4 : b < 4096) : Fst (fr (Rat.divInt a b)) := by
  have s : Sz 12 (Rat.divInt a b) := sz_divInt (by omega) (by unfold Bt; omega) (by unfold Bt; omega)
  have n0 := divInt_nn h1 h3
  have d0 := den_pos' (Rat.divInt a b)
  have s1 := s.1
  have s2 := s.2
  unfold Bt at s1 s2
  exact ⟨_, _, rfl, n0, by omega, d0, by omega⟩
set_option maxHeartbeats 2000000 in
theorem s_law_first {i j k l : Nat} (hn : S_nip (Δ i)) (hw : S_with (Δ j)) (ha : S_any (Δ k)) (hd : S_div2 (Δ l)) : S_first (run Δ gl (F_law_first i j k l)) := by
  intro n N c h ua hN sc cp
  obtain ⟨w, h1, e1, wa, wb, u1⟩ := hn n N 6 h ua (by omega) (by decide) (by decide)
  by_cases w0 : w = 0
  · subst w0
    obtain ⟨v2, h2, e2, v2a, v2b, u2⟩ := hn n (N + 1) 20 h1 u1.at_ (by omega) (by decide) (by decide)
    obtain ⟨v3, h3, e3, v3a, v3b, u3⟩ := hn n (N + 2) 6 h2 u2.at_ (by omega) (by decide) (by decide)
    have e4 := hw v2 (1 + v3) 4 h3 (by omega) (by unfold Bt; omega) (by decide)
    obtain ⟨h9, t1, t2⟩ := tidy_up (d := fr (Rat.divInt v2 (1 + v3))) (fr_flat _) ua (show N ≤ N + 6 by omega) (((u1.trans u2).trans u3).mono (by omega))
    refine ⟨Rat.divInt v2 (1 + v3), h9, ⟨(sz_divInt (B := 5) (a := v2) (b := 1 + v3) (by omega) (by unfold Bt; omega) (by unfold Bt; omega)).mono (by decide), (sc.mul (sz_divInt (B := 5) (a := v2) (b := 1 + v3) (by omega) (by unfold Bt; omega) (by unfold Bt; omega))).mono (by decide)⟩, divInt_nn v2a (by omega), ?_, t2⟩
    simp [run, F_law_first, B_law_first, exs, ex, ev, evs, asn, asBl, R.calm, List.set, bop, cmpD, eqD, e1, e2, e3, e4, t1]
  · obtain ⟨x, xm, h2, e2, u2⟩ := ha n (N + 1) [.tup [.int 0, .int 1], .tup [.int 2, .int 3], .tup [.int 2, .int 3], .tup [.int 1, .int 2], .tup [.int 1, .int 3], .tup [.int 3, .int 5], .tup [.int 3, .int 4], .tup [.int 9, .int 10], .tup [.int 1, .int 1]] h1 u1.at_ (by omega) (by simp) (by simp) (by simp)
    have px : Fst x := by
      simp only [List.mem_cons, List.not_mem_nil, or_false] at xm
      rcases xm with rfl | rfl | rfl | rfl | rfl | rfl | rfl | rfl | rfl <;> exact ⟨_, _, rfl, by decide, by decide, by decide, by decide⟩
    by_cases w1 : w = 1
    · subst w1
      obtain ⟨y, ym, h3, e3, u3⟩ := ha n (N + 2) [.int 1, .int (-1)] h2 u2.at_ (by omega) (by simp) (by simp) (by simp)
      obtain ⟨v, rfl, va, vb⟩ : ∃ v : Int, y = .int v ∧ -1 ≤ v ∧ v ≤ 1 := by
        simp only [List.mem_cons, List.not_mem_nil, or_false] at ym
        rcases ym with rfl | rfl <;> exact ⟨_, rfl, by decide, by decide⟩
      have e4 := hw (2000 + v) 3000 12 h3 (by decide) (bts (by decide)) (by decide)
      obtain ⟨e, se, pe, e5⟩ := fst_div hd (fst_fr (a := 2000 + v) (b := 3000) (by omega) (by omega) (by decide) (by decide)) sc cp h3
      obtain ⟨h9, t1, t2⟩ := tidy_up (d := fr e) (fr_flat _) ua (show N ≤ N + 6 by omega) (((u1.trans u2).trans u3).mono (by omega))
      refine ⟨e, h9, se, pe, ?_, t2⟩
      simp [run, F_law_first, B_law_first, exs, ex, ev, evs, asn, asBl, R.calm, List.set, bop, cmpD, eqD, lineOk, sizeLine, e1, e2, e3, e4, e5, t1]
    · by_cases w3 : 3 < w
      · obtain ⟨v3, h3, e3, v3a, v3b, u3⟩ := hn n (N + 2) 60 h2 u2.at_ (by omega) (by decide) (by decide)
        have e4 := hw v3 60 6 h3 (by decide) (bts (by decide)) (by decide)
        obtain ⟨e, se, pe, e5⟩ := fst_div hd (fst_fr (a := v3) (b := 60) (by omega) (by omega) (by decide) (by decide)) sc cp h3
        obtain ⟨h9, t1, t2⟩ := tidy_up (d := fr e) (fr_flat _) ua (show N ≤ N + 6 by omega) (((u1.trans u2).trans u3).mono (by omega))
        refine ⟨e, h9, se, pe, ?_, t2⟩
        simp [run, F_law_first, B_law_first, exs, ex, ev, evs, asn, asBl, R.calm, List.set, bop, cmpD, eqD, lineOk, sizeLine, e1, e2, e3, e4, e5, t1, w0, w1, w3]
      · obtain ⟨e, se, pe, e5⟩ := fst_div hd px sc cp h2
        obtain ⟨h9, t1, t2⟩ := tidy_up (d := fr e) (fr_flat _) ua (show N ≤ N + 6 by omega) ((u1.trans u2).mono (by omega))
        refine ⟨e, h9, se, pe, ?_, t2⟩
        simp [run, F_law_first, B_law_first, exs, ex, ev, evs, asn, asBl, R.calm, List.set, bop, cmpD, eqD, lineOk, sizeLine, e1, e2, e5, t1, w0, w1, w3]
end
end HS

/-! k37: errors, gaps. -/
namespace HS
open PySem L2
def L_errors_for_0 (f_is_lower f_is_lost_at f_next_error : Nat) : Ss :=
    (.cons (.ife (.not (.call f_is_lower (.cons (.var 3) (.cons (.var 4) .nil)))) (
      (.cons (.ret (.var 5)) .nil)) (.nil)) 
    (.cons (.ife (.call f_is_lost_at (.cons (.var 0) (.cons (.var 4) .nil))) (
      (.cons (.ret .non) .nil)) (.nil)) 
    (.cons (.asg (.nm 4) (.call f_next_error (.cons (.var 0) (.cons (.var 1) (.cons (.var 4) .nil))))) .nil)))
def B_errors_for (f_check_start f_check_gap g_MOST_STEPS f_is_lower f_is_lost_at f_next_error : Nat) : Ss :=
  (.cons (.exp (.call f_check_start (.cons (.var 0) (.cons (.var 1) (.cons (.var 2) .nil))))) 
  (.cons (.exp (.call f_check_gap (.cons (.var 3) .nil))) 
  (.cons (.asg (.nm 4) (.var 2)) 
  (.cons (.fr (.nm 5) (.rng (.cons (.bin .add (.glb g_MOST_STEPS) (.int 1)) .nil)) (L_errors_for_0 f_is_lower f_is_lost_at f_next_error)) 
  (.cons (.ret .non) .nil)))))
def F_errors_for (f_check_start f_check_gap g_MOST_STEPS f_is_lower f_is_lost_at f_next_error : Nat) : Df := ⟨4, 6, B_errors_for f_check_start f_check_gap g_MOST_STEPS f_is_lower f_is_lost_at f_next_error⟩
def L_law_urn_0 : Ss :=
    (.cons (.asg (.nm 3) (.bin .mod (.blt .int (.cons (.bin .add (.bin .add (.bin .mul (.var 3) (.int 43591)) (.bin .mod (.blt .int (.cons (.var 4) .nil)) (.int 2147483423))) (.int 43)) .nil)) (.int 2147483423))) .nil)
def B_law_urn (cA cB cC : Int) : Ss :=
  (.cons (.asg (.nm 2) (.ife (.cmp .Lt (.var 1) (.blt .len (.cons (.var 0) .nil))) (.blt .int (.cons (.idx (.var 0) (.var 1)) .nil)) (.bin .add (.bin .add (.bin .mul (.int cA) (.var 1)) (.int cB)) (.bin .mod (.blt .int (.cons (.blt .sum (.cons (.slc (.var 0) .no (.so (.int 5))) .nil)) .nil)) (.int 999769))))) 
  (.cons (.asg (.nm 3) (.bin .add (.int cC) (.bin .mul (.int 2903) (.var 1)))) 
  (.cons (.fr (.nm 4) (.pln (.bin .add (.slc (.var 0) .no (.so (.int 11))) (.lst (.cons (.var 2) .nil)))) (L_law_urn_0)) 
  (.cons (.ret (.lst (.cons (.ife (.or (.cmp .Lt (.var 2) (.int 0)) (.cmp .GtE (.var 2) (.bin .pow (.int 10) (.int 18)))) (.blt .abs (.cons (.var 2) .nil)) (.int 0)) (.cons (.var 3) (.cons (.int 0) .nil))))) .nil))))
def F_law_urn (cA cB cC : Int) : Df := ⟨2, 5, B_law_urn cA cB cC⟩
def L_law_errors_0 (f__law_is_lost f__law_led : Nat) : Ss :=
    (.cons (.ife (.call f__law_is_lost (.cons (.var 0) (.cons (.idx (.var 3) (.neg (.int 1))) .nil))) (
      (.cons (.ret (.var 3)) .nil)) (.nil)) 
    (.cons (.exp (.app (.var 3) (.call f__law_led (.cons (.var 0) (.cons (.var 1) (.cons (.idx (.var 3) (.neg (.int 1))) .nil)))))) .nil))
def B_law_errors (f__law_is_lost f__law_led : Nat) : Ss :=
  (.cons (.asg (.nm 3) (.lst (.cons (.var 2) .nil))) 
  (.cons (.fr (.nm 4) (.rng (.cons (.int 6) .nil)) (L_law_errors_0 f__law_is_lost f__law_led)) 
  (.cons (.ret (.var 3)) .nil)))
def F_law_errors (f__law_is_lost f__law_led : Nat) : Df := ⟨3, 5, B_law_errors f__law_is_lost f__law_led⟩
def B_law_gap (f__law_any_of f__law_nip f__law_frac f__law_mul : Nat) : Ss :=
  (.cons (.asg (.tup (.cons (.nm 2) (.cons (.nm 3) .nil))) (.tup (.cons (.call f__law_any_of (.cons (.var 0) (.cons (.var 1) .nil))) (.cons (.call f__law_nip (.cons (.var 0) (.cons (.int 4) .nil))) .nil)))) 
  (.cons (.ife (.cmp .Eq (.var 3) (.int 0)) (
    (.cons (.ret (.call f__law_frac (.cons (.bin .add (.int 1) (.call f__law_nip (.cons (.var 0) (.cons (.int 30) .nil)))) (.cons (.bin .add (.int 1) (.call f__law_nip (.cons (.var 0) (.cons (.int 300) .nil)))) .nil)))) .nil)) (.nil)) 
  (.cons (.ife (.cmp .Lt (.var 3) (.int 3)) (
    (.cons (.asg (.nm 2) (.call f__law_mul (.cons (.var 2) (.cons (.call f__law_frac (.cons (.bin .sub (.bin .add (.bin .pow (.int 10) (.int 6)) (.bin .mul (.int 2) (.var 3))) (.int 3)) (.cons (.bin .pow (.int 10) (.int 6)) .nil))) .nil)))) .nil)) (.nil)) 
  (.cons (.ret (.ife (.cmp .Gt (.idx (.var 2) (.int 0)) (.int 0)) (.var 2) (.tup (.cons (.int 1) (.cons (.int 1000) .nil))))) .nil))))
def F_law_gap (f__law_any_of f__law_nip f__law_frac f__law_mul : Nat) : Df := ⟨2, 4, B_law_gap f__law_any_of f__law_nip f__law_frac f__law_mul⟩
def L_law_right_0 (f__law_gap f__law_sub f_errors_for : Nat) : Ss :=
    (.cons (.asg (.nm 6) (.call f__law_gap (.cons (.var 0) (.cons (.slc (.var 4) .no (.so (.int 5))) .nil)))) 
    (.cons (.asg (.nm 7) (.lc (.var 8) (.nm 8) (.rng (.cons (.blt .len (.cons (.var 4) .nil)) .nil)) (.so (.cmp .GtE (.idx (.call f__law_sub (.cons (.var 6) (.cons (.idx (.var 4) (.var 8)) .nil))) (.int 0)) (.int 0))) [8])) 
    (.cons (.asg (.nm 9) (.ife (.cmp .NotEq (.var 7) (.lst .nil)) (.idx (.var 7) (.int 0)) .non)) 
    (.cons (.ife (.cmp .NotEq (.blt .repr (.cons (.call f_errors_for (.cons (.var 1) (.cons (.var 2) (.cons (.var 3) (.cons (.var 6) .nil))))) .nil)) (.blt .repr (.cons (.var 9) .nil))) (
      (.cons (.ret (.bl false)) .nil)) (.nil)) 
    (.cons (.ife (.cmp .NotEq (.blt .repr (.cons (.callk f_errors_for .nil [3, 2, 1, 0] (.cons (.var 6) (.cons (.var 3) (.cons (.var 2) (.cons (.var 1) .nil))))) .nil)) (.blt .repr (.cons (.var 9) .nil))) (
      (.cons (.ret (.bl false)) .nil)) (.nil)) .nil)))))
def B_law_right (f__law_world f__law_first f__law_errors f__law_gap f__law_sub f_errors_for : Nat) : Ss :=
  (.cons (.asg (.tup (.cons (.nm 1) (.cons (.nm 2) .nil))) (.call f__law_world (.cons (.var 0) .nil))) 
  (.cons (.asg (.nm 3) (.call f__law_first (.cons (.var 0) (.cons (.var 1) .nil)))) 
  (.cons (.asg (.nm 4) (.call f__law_errors (.cons (.var 1) (.cons (.var 2) (.cons (.var 3) .nil))))) 
  (.cons (.fr (.nm 5) (.rng (.cons (.int 3) .nil)) (L_law_right_0 f__law_gap f__law_sub f_errors_for)) 
  (.cons (.ret (.bl true)) .nil)))))
def F_law_right (f__law_world f__law_first f__law_errors f__law_gap f__law_sub f_errors_for : Nat) : Df := ⟨1, 10, B_law_right f__law_world f__law_first f__law_errors f__law_gap f__law_sub f_errors_for⟩
def B_law (f__law_right f__law_urn : Nat) : Ss :=
  (.cons (.ret (.blt .all (.cons (.lc (.call f__law_right (.cons (.call f__law_urn (.cons (.var 0) (.cons (.var 1) .nil))) .nil)) (.nm 1) (.rng (.cons (.int 2) .nil)) .no [1]) .nil))) .nil)
def F_law (f__law_right f__law_urn : Nat) : Df := ⟨1, 2, B_law f__law_right f__law_urn⟩
def errs (c r : Rat) : Nat → Rat → List Rat
  | 0, e => [e]
  | k + 1, e => if 1 ≤ c * e then [e] else e :: errs c r k (nxt c r e)
def due (c r g : Rat) : Nat → Nat → Rat → Option Nat
  | _, 0, _ => none
  | s, k + 1, e => if e ≤ g then some s else if 1 ≤ c * e then none else due c r g (s + 1) k (nxt c r e)
def fstLe (g : Rat) : Nat → List Rat → Option Nat
  | _, [] => none
  | s, x :: xs => if x ≤ g then some s else fstLe g (s + 1) xs
theorem due_errs (c r g : Rat) : ∀ (k s : Nat) (e : Rat), due c r g s (k + 1) e = fstLe g s (errs c r k e)
  | 0, s, e => by simp [due, errs, fstLe]
  | k + 1, s, e => by
    rw [due, errs]
    by_cases h1 : e ≤ g
    · by_cases h2 : 1 ≤ c * e <;> simp [h1, h2, fstLe]
    · by_cases h2 : 1 ≤ c * e
      · simp [h1, h2, fstLe]
      · simp [h1, h2, fstLe, due_errs c r g k]
theorem errs_ne (c r : Rat) : ∀ (k : Nat) (e : Rat), errs c r k e ≠ []
  | 0, e => by simp [errs]
  | k + 1, e => by rw [errs]; split <;> simp
theorem errs_len (c r : Rat) : ∀ (k : Nat) (e : Rat), (errs c r k e).length ≤ k + 1
  | 0, e => by simp [errs]
  | k + 1, e => by
    rw [errs]
    split
    · simp
    · have := errs_len c r k (nxt c r e)
      simp
      omega
theorem lost_ne {c e : Rat} (h : ¬ 1 ≤ c * e) : c * e ≠ 1 := fun z => h (by rw [z]; exact Rat.le_refl)
theorem errs_sz {c r : Rat} (w : Wd c r) : ∀ (k B : Nat) (e : Rat), Sz B e → (B + 31) * 2 ^ k ≤ 3008 → ∀ x ∈ errs c r k e, Sz 2977 x
  | 0, B, e, he, hB, x, hx => by
    simp [errs] at hx
    subst hx
    exact he.mono (by omega)
  | k + 1, B, e, he, hB, x, hx => by
    rw [errs] at hx
    rw [Nat.pow_succ] at hB
    have hB2 : (2 * B + 31 + 31) * 2 ^ k ≤ 3008 := by
      have : (2 * B + 31 + 31) * 2 ^ k = (B + 31) * (2 ^ k * 2) := by rw [show 2 * B + 31 + 31 = (B + 31) * 2 by omega, Nat.mul_assoc, Nat.mul_comm 2]
      omega
    have p1 : 1 ≤ 2 ^ k := Nat.one_le_two_pow
    have hB3 : B ≤ 2977 := by
      have : (B + 31) * 1 ≤ (B + 31) * (2 ^ k * 2) := Nat.mul_le_mul_left _ (by omega)
      omega
    split at hx
    · simp at hx; subst hx; exact he.mono hB3
    · rename_i hl
      rcases List.mem_cons.mp hx with rfl | hx
      · exact he.mono hB3
      · exact errs_sz w k (2 * B + 31) _ (sz_nxt w.sc w.sr he (lost_ne hl)) hB2 x hx
def optD : Option Nat → D
  | none => .non
  | some n => .int n
def S_errsOf (f : Fn) : Prop := ∀ (c r e : Rat) h, Wd c r → Sz 16 e → f [fr c, fr r, fr e] h = .ok (.ref h.length) (h ++ [.lst ((errs c r 6 e).map fr)])
theorem flats_fr : ∀ l : List Rat, D.flats (l.map fr) = true
  | [] => rfl
  | q :: l => by simp [fr_flat, flats_fr l]
theorem atI_last {xs : List D} {d : D} : atI (xs ++ [d]) (-1) = some d := by
  have : ixN (xs ++ [d]).length (-1) = some xs.length := by
    unfold ixN
    simp
    omega
  unfold atI
  rw [this]
  simp
section
variable {Δ : Nat → Fn} {gl : Nat → D}
theorem get_end {h : Hh} {c : C} : (h ++ [c])[h.length]? = some c := by simp
theorem set_end {h : Hh} {c d : C} : (h ++ [c]).set h.length d = h ++ [d] := by simp
theorem pow_step {B k : Nat} (hB : (B + 31) * 2 ^ (k + 1) ≤ 3008) : (2 * B + 31 + 31) * 2 ^ k ≤ 3008 ∧ B ≤ 2977 := by
  rw [Nat.pow_succ] at hB
  have p1 : 1 ≤ 2 ^ k := Nat.one_le_two_pow
  constructor
  · have : (2 * B + 31 + 31) * 2 ^ k = (B + 31) * (2 ^ k * 2) := by rw [show 2 * B + 31 + 31 = (B + 31) * 2 by omega, Nat.mul_assoc, Nat.mul_comm 2]
    omega
  · have : (B + 31) * 1 ≤ (B + 31) * (2 ^ k * 2) := Nat.mul_le_mul_left _ (by omega)
    omega
theorem errs_loop {tg : D → En → Hh → R En} {bd : En → Hh → R F} {c r : Rat} (w : Wd c r) (h : Hh) (St : Option D → En) (htg : ∀ d z h, tg d (St z) h = .ok (St (some d)) h)
    (hb1 : ∀ (acc : List Rat) (e : Rat) (B : Nat) (z : Option D), Sz B e → B ≤ 2977 → 1 ≤ c * e → bd (St z) (h ++ [.lst ((acc ++ [e]).map fr)]) = .ok (.rt (.ref h.length)) (h ++ [.lst ((acc ++ [e]).map fr)]))
    (hb2 : ∀ (acc : List Rat) (e : Rat) (B : Nat) (z : Option D), Sz B e → B ≤ 2977 → ¬ 1 ≤ c * e → acc.length < 1000 → bd (St z) (h ++ [.lst ((acc ++ [e]).map fr)]) = .ok (.nx (St z)) (h ++ [.lst (((acc ++ [e]) ++ [nxt c r e]).map fr)])) :
    ∀ (items : List D) (acc : List Rat) (B : Nat) (e : Rat) (z : Option D), Sz B e → (B + 31) * 2 ^ items.length ≤ 3008 → acc.length + items.length < 1000 →
      ∃ f, forL [] tg bd items (St z) (h ++ [.lst ((acc ++ [e]).map fr)]) = .ok f (h ++ [.lst ((acc ++ errs c r items.length e).map fr)]) ∧ (f = .rt (.ref h.length) ∨ ∃ z, f = .nx (St z))
  | [], acc, B, e, z, he, hB, hlen => ⟨.nx (St z), by simp [forL, gsOk_nil, errs], .inr ⟨z, rfl⟩⟩
  | d :: items, acc, B, e, z, he, hB, hlen => by
    obtain ⟨hB2, hB3⟩ := pow_step hB
    unfold forL
    rw [if_pos (gsOk_nil _), htg]
    by_cases hlost : 1 ≤ c * e
    · refine ⟨.rt (.ref h.length), ?_, .inl rfl⟩
      simp only [R.calm_ok, R.bind_ok, hb1 acc e B (some d) he hB3 hlost, List.length_cons, errs, hlost, if_true]
    · obtain ⟨f, e1, e2⟩ := errs_loop w h St htg hb1 hb2 items (acc ++ [e]) (2 * B + 31) (nxt c r e) (some d) (sz_nxt w.sc w.sr he (lost_ne hlost)) hB2 (by simp at hlen ⊢; omega)
      refine ⟨f, ?_, e2⟩
      simp only [R.calm_ok, R.bind_ok, hb2 acc e B (some d) he hB3 hlost (by simp at hlen; omega), List.length_cons, errs, hlost, if_false, e1]
      simp
theorem s_law_errors {i j : Nat} (hl : S_lost (Δ i)) (hn : S_next (Δ j)) : S_errsOf (run Δ gl (F_law_errors i j)) := by
  intro c r e0 h w he
  obtain ⟨f, e1, e2⟩ := errs_loop (tg := fun d ρ h => R.ok (List.set ρ 4 (some d)) h) (bd := fun ρ h => exs Δ gl (L_law_errors_0 i j) ρ h)
    w h (fun z => [some (fr c), some (fr r), some (fr e0), some (.ref h.length), z]) (fun d z h => by simp [List.set])
    (fun acc e B z he hB hlost => by
      have l1 := fun h => hl c e 4 B h w.sc he (by omega)
      have a1 : atI (acc.map fr ++ [fr e]) (-1) = some (fr e) := atI_last
      simp [L_law_errors_0, exs, ex, ev, evs, asBl, ixD, listAt, get_end, a1, l1, hlost])
    (fun acc e B z he hB hlost hlen => by
      have l1 := fun h => hl c e 4 B h w.sc he (by omega)
      have n1 := fun h => hn c r e B h w.sc w.sr he hB (lost_ne hlost)
      have a1 : atI (acc.map fr ++ [fr e]) (-1) = some (fr e) := atI_last
      have sl : acc.length + 1 < sizeLine := Nat.lt_of_lt_of_le (show acc.length + 1 < 1001 by omega) (by decide)
      simp [L_law_errors_0, exs, ex, ev, evs, asBl, ixD, listAt, get_end, a1, l1, hlost, n1, lstOk, app, sl])
    (upFrom 0 6) [] 16 e0 none he (by decide) (by decide)
  have e3 : tidy h (.ref h.length) (h ++ [.lst ((errs c r 6 e0).map fr)]) = .ok (.ref h.length) (h ++ [.lst ((errs c r 6 e0).map fr)]) := by
    unfold tidy
    rw [if_neg (by simp)]
    simp [flats_fr]
  have e4 : small62 6 = true := by decide
  simp only [show (upFrom 0 6).length = 6 from rfl, List.nil_append, List.map_cons, List.map_nil] at e1
  simp [run, F_law_errors, B_law_errors, exs, ex, ev, evs, evi, asn, rngD, e4, lineOk, sizeLine, alloc, R.calm, List.set, e1]
  rcases e2 with rfl | ⟨z, rfl⟩
  · simp [e3]
  · simp [e3]
end
end HS

/-! k37: gaps, the program's search, urns. -/
namespace HS
open PySem L2
def S_gap (f : Fn) : Prop := ∀ (n N m : Nat) (es : List Rat) h, UAt n N h → N ≤ 900000 → m ≠ n → h[m]? = some (.lst (es.map fr)) → es ≠ [] → es.length < 1000 → (∀ e ∈ es, Sz 2977 e) → ∃ g h', 0 < g.num ∧ Sz 3000 g ∧ f [.ref n, .ref m] h = .ok (fr g) h' ∧ Up n (N + 6) h h'
def S_errorsFor (f : Fn) : Prop := ∀ (c r e g : Rat) h, Wd c r → Sz 16 e → 0 ≤ e.num → 0 < g.num → Sz 3000 g → f [fr c, fr r, fr e, fr g] h = .ok (optD (due c r g 0 7 e)) h
def S_urn (f : Fn) : Prop := ∀ (ns : List Int) (lap : Int) h, ns.length ≤ 63 → 0 ≤ lap → lap < 1000 → ∃ xs, Ur 0 xs ∧ f [.fz (ns.map D.int), .int lap] h = .ok (.ref h.length) (h ++ [.lst xs])
section
variable {Δ : Nat → Fn} {gl : Nat → D}
set_option maxHeartbeats 1000000 in
theorem s_law_gap {i j k l : Nat} (ha : S_anyL (Δ i)) (hn : S_nip (Δ j)) (hw : S_with (Δ k)) (hm : S_op (· * ·) (Δ l)) : S_gap (run Δ gl (F_law_gap i j k l)) := by
  intro n N m es h ua hN hmn hx hne hlen hsz
  obtain ⟨d, dm, h1, e1, u1⟩ := ha n N m (es.map fr) h ua (by omega) hmn hx (by simpa using hne) (by simp; omega) (fun d hd => by
    obtain ⟨q, _, rfl⟩ := List.mem_map.mp hd
    exact fr_flat q)
  obtain ⟨x, xm, rfl⟩ := List.mem_map.mp dm
  have sx := hsz x xm
  obtain ⟨w, h2, e2, wa, wb, u2⟩ := hn n (N + 1) 4 h1 u1.at_ (by omega) (by decide) (by decide)
  by_cases w0 : w = 0
  · subst w0
    obtain ⟨v3, h3, e3, v3a, v3b, u3⟩ := hn n (N + 2) 30 h2 u2.at_ (by omega) (by decide) (by decide)
    obtain ⟨v4, h4, e4, v4a, v4b, u4⟩ := hn n (N + 3) 300 h3 u3.at_ (by omega) (by decide) (by decide)
    have e5 := hw (1 + v3) (1 + v4) 9 h4 (by omega) (by unfold Bt; omega) (by decide)
    obtain ⟨h9, t1, t2⟩ := tidy_up (d := fr (Rat.divInt (1 + v3) (1 + v4))) (fr_flat _) ua (show N ≤ N + 6 by omega) ((((u1.trans u2).trans u3).trans u4).mono (by omega))
    refine ⟨Rat.divInt (1 + v3) (1 + v4), h9, divInt_pos (by omega) (by omega), (sz_divInt (B := 9) (a := 1 + v3) (b := 1 + v4) (by omega) (by unfold Bt; omega) (by unfold Bt; omega)).mono (by decide), ?_, t2⟩
    simp [run, F_law_gap, B_law_gap, exs, ex, ev, evs, asn, asns, asBl, R.calm, List.set, bop, cmpD, eqD, lineOk, sizeLine, e1, e2, e3, e4, e5, t1]
  · have fin : ∀ (q : Rat), Sz 3000 q → ∃ g, 0 < g.num ∧ Sz 3000 g ∧ (if 0 < q.num then fr q else .tup [.int 1, .int 1000]) = fr g := fun q sq => by
      by_cases hq : 0 < q.num
      · exact ⟨q, hq, sq, by rw [if_pos hq]⟩
      · exact ⟨Rat.divInt 1 1000, by decide, (sz_divInt (B := 10) (by decide) (bts (by decide)) (bts (by decide))).mono (by decide), by rw [if_neg hq]; rfl⟩
    by_cases w3 : w < 3
    · have e3 := hw (1000000 + 2 * w - 3) 1000000 20 h2 (by decide) (bts (by decide)) (by decide)
      have s3 : Sz 20 (Rat.divInt (1000000 + 2 * w - 3) 1000000) := sz_divInt (by decide) (by unfold Bt; omega) (bts (by decide))
      have e4 : Δ l [fr x, fr (Rat.divInt (1000000 + 2 * w - 3) 1000000)] h2 = .ok (fr (x * Rat.divInt (1000000 + 2 * w - 3) 1000000)) h2 := hm x _ 2977 20 h2 sx s3 (by decide)
      have m1 : mulOk 2 w = true := mulOk_of (B := 2) (C := 3) (bts (by decide)) (by unfold Bt; omega) (by decide)
      obtain ⟨g, g1, g2, g3⟩ := fin _ ((sx.mul s3).mono (by decide))
      obtain ⟨h9, t1, t2⟩ := tidy_up (d := fr g) (fr_flat _) ua (show N ≤ N + 6 by omega) ((u1.trans u2).mono (by omega))
      refine ⟨g, h9, g1, g2, ?_, t2⟩
      generalize x * Rat.divInt (1000000 + 2 * w - 3) 1000000 = q at e4 g3
      by_cases hq : 0 < q.num
      · rw [if_pos hq] at g3
        rw [← g3] at t1 ⊢
        simp [run, F_law_gap, B_law_gap, exs, ex, ev, evs, asn, asns, asBl, R.calm, List.set, bop, cmpD, eqD, lineOk, sizeLine, e1, e2, e3, e4, w0, w3, m1]
        simp [fr, ixD, hq]
        exact t1
      · rw [if_neg hq] at g3
        rw [← g3] at t1 ⊢
        simp [run, F_law_gap, B_law_gap, exs, ex, ev, evs, asn, asns, asBl, R.calm, List.set, bop, cmpD, eqD, lineOk, sizeLine, e1, e2, e3, e4, w0, w3, m1]
        simp [fr, ixD, hq]
        exact t1
    · obtain ⟨g, g1, g2, g3⟩ := fin x (sx.mono (by decide))
      obtain ⟨h9, t1, t2⟩ := tidy_up (d := fr g) (fr_flat _) ua (show N ≤ N + 6 by omega) ((u1.trans u2).mono (by omega))
      refine ⟨g, h9, g1, g2, ?_, t2⟩
      by_cases hq : 0 < x.num
      · rw [if_pos hq] at g3
        rw [← g3] at t1 ⊢
        simp [run, F_law_gap, B_law_gap, exs, ex, ev, evs, asn, asns, asBl, R.calm, List.set, bop, cmpD, eqD, lineOk, sizeLine, e1, e2, w0, w3]
        simp [fr, ixD, hq]
        exact t1
      · rw [if_neg hq] at g3
        rw [← g3] at t1 ⊢
        simp [run, F_law_gap, B_law_gap, exs, ex, ev, evs, asn, asns, asBl, R.calm, List.set, bop, cmpD, eqD, lineOk, sizeLine, e1, e2, w0, w3]
        simp [fr, ixD, hq]
        exact t1
theorem pow_step2 {B k : Nat} (hB : (B + 31) * 2 ^ (k + 1) ≤ 6016) : (2 * B + 31 + 31) * 2 ^ k ≤ 6016 ∧ B ≤ 2977 := by
  rw [Nat.pow_succ] at hB
  have p1 : 1 ≤ 2 ^ k := Nat.one_le_two_pow
  constructor
  · have : (2 * B + 31 + 31) * 2 ^ k = (B + 31) * (2 ^ k * 2) := by rw [show 2 * B + 31 + 31 = (B + 31) * 2 by omega, Nat.mul_assoc, Nat.mul_comm 2]
    omega
  · have : (B + 31) * 2 ≤ (B + 31) * (2 ^ k * 2) := Nat.mul_le_mul_left _ (by omega)
    omega
theorem due_loop {tg : D → En → Hh → R En} {bd : En → Hh → R F} {c r g : Rat} (w : Wd c r) (h : Hh) (St : Rat → Option D → En) (htg : ∀ d e z, tg d (St e z) h = .ok (St e (some d)) h)
    (hb : ∀ (e : Rat) (B : Nat) (s : Nat), Sz B e → B ≤ 2977 → bd (St e (some (.int s))) h = .ok (if e ≤ g then .rt (.int s) else if 1 ≤ c * e then .rt .non else .nx (St (nxt c r e) (some (.int s)))) h) :
    ∀ (k s B : Nat) (e : Rat) (z : Option D), Sz B e → (B + 31) * 2 ^ k ≤ 6016 → ∃ f, forL [] tg bd (upFrom s k) (St e z) h = .ok f h ∧ (f = .rt (optD (due c r g s k e)) ∨ ((∃ e z, f = .nx (St e z)) ∧ due c r g s k e = none))
  | 0, s, B, e, z, he, hB => ⟨.nx (St e z), by simp [forL, upFrom, gsOk_nil], .inr ⟨⟨e, z, rfl⟩, rfl⟩⟩
  | k + 1, s, B, e, z, he, hB => by
    obtain ⟨hB2, hB3⟩ := pow_step2 hB
    have e0 : upFrom s (k + 1) = .int s :: upFrom ((s + 1 : Nat) : Int) k := by
      unfold upFrom
      rw [List.range_succ_eq_map, List.map_cons, List.map_map]
      simp [Function.comp_def]
      intro a _
      omega
    rw [e0]
    unfold forL
    rw [if_pos (gsOk_nil _), htg, R.calm_ok, R.bind_ok, hb e B s he hB3, R.bind_ok]
    by_cases h1 : e ≤ g
    · exact ⟨.rt (.int s), by simp [h1], .inl (by simp [due, h1, optD])⟩
    · by_cases h2 : 1 ≤ c * e
      · exact ⟨.rt .non, by simp [h1, h2], .inl (by simp [due, h1, h2, optD])⟩
      · obtain ⟨f, e1, e2⟩ := due_loop w h St htg hb k (s + 1) (2 * B + 31) (nxt c r e) (some (.int s)) (sz_nxt w.sc w.sr he (lost_ne h2)) hB2
        refine ⟨f, ?_, ?_⟩
        · simp only [h1, h2, if_false]
          exact e1
        · simp only [due, h1, h2, if_false]
          exact e2
theorem s_errors_for {i j k l m o : Nat} (hs : S_start (Δ i)) (hg : S_pos (Δ j)) (h6 : gl k = .int 6) (hlw : S_lower (Δ l)) (hl : S_lost (Δ m)) (hn : S_next (Δ o)) : S_errorsFor (run Δ gl (F_errors_for i j k l m o)) := by
  intro c r e0 g h w he he0 hgp hgs
  obtain ⟨f, e1, e2⟩ := due_loop (tg := fun d ρ h => R.ok (List.set ρ 5 (some d)) h) (bd := fun ρ h => exs Δ gl (L_errors_for_0 l m o) ρ h) (g := g)
    w h (fun e z => [some (fr c), some (fr r), some (fr e0), some (fr g), some (fr e), z]) (fun d e z => by simp [List.set])
    (fun e B s he hB => by
      have l1 := hl c e 4 B h w.sc he (by omega)
      have a1 := hlw g e 3000 B h hgs he (by omega)
      by_cases h1 : e ≤ g
      · have h1' : ¬ g < e := Rat.not_lt.mpr h1
        simp [L_errors_for_0, exs, ex, ev, evs, asBl, a1, h1, h1']
      · have h1' : g < e := Rat.not_le.mp h1
        by_cases h2 : 1 ≤ c * e
        · simp [L_errors_for_0, exs, ex, ev, evs, asBl, a1, l1, h1, h1', h2]
        · have n1 := hn c r e B h w.sc w.sr he hB (lost_ne h2)
          simp [L_errors_for_0, exs, ex, ev, evs, asn, asBl, R.calm, List.set, a1, l1, n1, h1, h1', h2])
    7 0 16 e0 none he (by decide)
  have e4 : small62 7 = true := by decide
  have c1 := hs c r e0 h w.sc w.sr w.cp w.rp w.cr he0
  have c2 := hg g h hgp
  simp only [show ((0 : Nat) : Int) = 0 from rfl] at e1
  simp [run, F_errors_for, B_errors_for, exs, ex, ev, evs, evi, asn, rngD, R.calm, List.set, c1, c2, h6, bop, e4, e1]
  rcases e2 with rfl | ⟨⟨e, z, rfl⟩, e3⟩
  · simp
    exact tidy_self (by cases due c r g 0 7 e0 <;> rfl)
  · rw [e3]
    simp [optD]
    exact tidy_self rfl
end
end HS

/-! k37: the urn's making. -/
namespace HS
open PySem L2
theorem cut_ints (ns : List Int) (lo hi : Option Int) : ∃ ms : List Int, cutD (ns.map D.int) lo hi = ms.map D.int ∧ ms.length ≤ ns.length := by
  unfold cutD
  refine ⟨(ns.drop _).take _, by rw [List.map_take, List.map_drop], ?_⟩
  simp
  omega
theorem stir_loop {tg : D → En → Hh → R En} {bd : En → Hh → R F} {gs : Gs} (h : Hh) (hgs : gsOk gs h) (St : Int → Option D → En) (htg : ∀ d e z, tg d (St e z) h = .ok (St e (some d)) h)
    (hb : ∀ (s i : Int), 0 ≤ s → s < 2147483648 → ∃ s', 0 ≤ s' ∧ s' < 2147483648 ∧ bd (St s (some (.int i))) h = .ok (.nx (St s' (some (.int i)))) h) :
    ∀ (items : List Int) (s : Int) (z : Option D), 0 ≤ s → s < 2147483648 → ∃ s' z', 0 ≤ s' ∧ s' < 2147483648 ∧ forL gs tg bd (items.map D.int) (St s z) h = .ok (.nx (St s' z')) h
  | [], s, z, h0, h1 => ⟨s, z, h0, h1, by simp [forL, hgs]⟩
  | i :: items, s, z, h0, h1 => by
    obtain ⟨s1, a, b, e⟩ := hb s i h0 h1
    obtain ⟨s2, z2, a2, b2, e2⟩ := stir_loop h hgs St htg hb items s1 (some (.int i)) a b
    refine ⟨s2, z2, a2, b2, ?_⟩
    rw [List.map_cons]
    unfold forL
    rw [if_pos hgs, htg, R.calm_ok, R.bind_ok, e, R.bind_ok]
    exact e2
theorem atI_some {xs : List D} {i : Int} (h0 : 0 ≤ i) (h1 : i < xs.length) : ∃ k : Nat, k < xs.length ∧ atI xs i = xs[k]? := by
  obtain ⟨k, rfl⟩ := Int.eq_ofNat_of_zero_le h0
  refine ⟨k, by omega, ?_⟩
  have : ixN xs.length (k : Int) = some k := by
    unfold ixN
    simp
    omega
  unfold atI
  rw [this]
  rfl
theorem flats_ints : ∀ l : List Int, D.flats (l.map D.int) = true
  | [] => rfl
  | q :: l => by simp [flats_ints l]
section
variable {Δ : Nat → Fn} {gl : Nat → D}
theorem at0 {b l : Hh} : (b ++ l)[b.length]? = l[0]? := by rw [List.getElem?_append_right (Nat.le_refl _)]; simp
theorem at1 {b l : Hh} : (b ++ l)[b.length + 1]? = l[1]? := by rw [List.getElem?_append_right (by omega)]; simp
theorem at2 {b l : Hh} : (b ++ l)[b.length + 1 + 1]? = l[2]? := by
  rw [List.getElem?_append_right (by omega)]
  congr 1
  omega
set_option maxHeartbeats 2000000 in
theorem urn_rest {cC : Int} (hC0 : 0 ≤ cC) (hC1 : cC < 1000000) (ns : List Int) (lap own : Int) (b : Hh) (hl : ns.length ≤ 63) (h0 : 0 ≤ lap) (h1 : lap < 1000) :
    ∃ xs h', Ur 0 xs ∧ (exs Δ gl (.cons (.asg (.nm 3) (.bin .add (.int cC) (.bin .mul (.int 2903) (.var 1)))) 
  (.cons (.fr (.nm 4) (.pln (.bin .add (.slc (.var 0) .no (.so (.int 11))) (.lst (.cons (.var 2) .nil)))) (L_law_urn_0)) 
  (.cons (.ret (.lst (.cons (.ife (.or (.cmp .Lt (.var 2) (.int 0)) (.cmp .GtE (.var 2) (.bin .pow (.int 10) (.int 18)))) (.blt .abs (.cons (.var 2) .nil)) (.int 0)) (.cons (.var 3) (.cons (.int 0) .nil))))) .nil)))
      [some (.fz (ns.map D.int)), some (.int lap), some (.int own), none, none] b) = .ok (.rt (.ref (b ++ h').length)) (b ++ h' ++ [.lst xs]) := by
  have m1 : mulOk 2903 lap = true := mulOk_of (B := 12) (C := 10) (bts (by decide)) (by unfold Bt; omega) (by decide)
  obtain ⟨ms, ec, lc⟩ := cut_ints ns none (some 11)
  have l1 : ms.length + 1 ≤ 16777216 := by omega
  obtain ⟨s, z, s0, s1, e1⟩ := stir_loop (gs := [(b.length + 1 + 1, (ms ++ [own]).map D.int)]) (tg := fun d ρ h => R.ok (List.set ρ 4 (some d)) h) (bd := fun ρ h => exs Δ gl L_law_urn_0 ρ h) (b ++ [.lst (ms.map D.int), .lst [.int own], .lst ((ms ++ [own]).map D.int)])
    (fun p hp => by
      rw [List.mem_singleton.mp hp]
      simp only [listAt, at2]
      rfl)
    (fun s z => [some (.fz (ns.map D.int)), some (.int lap), some (.int own), some (.int s), z]) (fun d e z => by simp [List.set])
    (fun s i h0 h1 => by
      have m2 : mulOk s 43591 = true := mulOk_of (bt31 h0 h1) (bts (B := 16) (by decide)) (by decide)
      refine ⟨Int.fmod (s * 43591 + Int.fmod i 2147483423 + 43) 2147483423, Int.fmod_nonneg_of_pos _ (by decide), by
        have := Int.fmod_lt_of_pos (s * 43591 + Int.fmod i 2147483423 + 43) (show (0 : Int) < 2147483423 by decide)
        omega, ?_⟩
      simp [L_law_urn_0, exs, ex, ev, evs, asn, bltD, bop, R.calm, List.set, m2]) (ms ++ [own]) (cC + 2903 * lap) none (by omega) (by omega)
  have a : 0 ≤ (if own < 0 ∨ 1000000000000000000 ≤ own then (if own < 0 then -own else own) else 0) := by
    split
    · split <;> omega
    · omega
  refine ⟨[.int (if own < 0 ∨ 1000000000000000000 ≤ own then (if own < 0 then -own else own) else 0), .int s, .int 0], [.lst (ms.map D.int), .lst [.int own], .lst ((ms ++ [own]).map D.int)], ⟨_, _, _, rfl, a, s0, s1, by decide, by decide⟩, ?_⟩
  simp only [List.map_append, List.map_cons, List.map_nil] at e1
  have c0 : ∀ x y : C, (b ++ [x, y])[b.length]? = some x := fun x y => at0
  have c1 : ∀ x y : C, (b ++ [x, y])[b.length + 1]? = some y := fun x y => at1
  have c2 : ∀ x y w : C, (b ++ [x, y, w])[b.length + 1 + 1]? = some w := fun x y w => at2
  have c2' : ∀ (x y w : C) (pf : b.length + 1 + 1 < (b ++ [x, y, w]).length), (b ++ [x, y, w])[b.length + 1 + 1] = w := fun x y w pf => by
    have q := at2 (b := b) (l := [x, y, w])
    rw [List.getElem?_eq_getElem pf] at q
    exact Option.some.inj q
  by_cases w1 : own < 0
  · simp [exs, ex, ev, evs, evo, evi, asn, bop, cmpD, bltD, getI, slD, ec, alloc, lineOk, sizeLine, l1, m1, R.calm, List.set, itemsD, listAt, c0, c1, c2, c2', e1, w1]
  · by_cases w2 : 1000000000000000000 ≤ own
    · simp [exs, ex, ev, evs, evo, evi, asn, bop, cmpD, bltD, getI, slD, ec, alloc, lineOk, sizeLine, l1, m1, R.calm, List.set, itemsD, listAt, c0, c1, c2, c2', e1, w1, w2]
    · simp [exs, ex, ev, evs, evo, evi, asn, bop, cmpD, bltD, getI, slD, ec, alloc, lineOk, sizeLine, l1, m1, R.calm, List.set, itemsD, listAt, c0, c1, c2, c2', e1, w1, w2]
theorem tidy_new {b t : Hh} {xs : List D} (f : D.flats xs = true) : tidy b (.ref (b ++ t).length) (b ++ t ++ [.lst xs]) = .ok (.ref b.length) (b ++ [.lst xs]) := by
  unfold tidy
  rw [if_neg (by simp)]
  have e : (b ++ t ++ [C.lst xs])[(b ++ t).length]? = some (.lst xs) := by simp
  dsimp only
  rw [e]
  dsimp only
  rw [if_pos ⟨f, by rw [List.append_assoc]; exact List.prefix_append _ _, by simp⟩]
theorem ur_flats {N : Nat} {xs : List D} (u : Ur N xs) : D.flats xs = true := by
  obtain ⟨a, b, c, rfl, _⟩ := u
  rfl
set_option maxHeartbeats 2000000 in
theorem s_law_urn {cA cB cC : Int} (hA0 : 0 ≤ cA) (hA1 : cA < 8192) (hC0 : 0 ≤ cC) (hC1 : cC < 1000000) : S_urn (run Δ gl (F_law_urn cA cB cC)) := by
  intro ns lap h hl h0 h1
  have ml : ((ns.map D.int).length : Int) = ns.length := by simp
  by_cases hlap : lap < ns.length
  · obtain ⟨k, hk, ek⟩ := atI_some (xs := ns.map D.int) h0 (by rw [ml]; exact hlap)
    have hk' : k < ns.length := by simpa using hk
    have ek : atI (ns.map D.int) lap = some (.int ns[k]) := by
      rw [ek, List.getElem?_map, List.getElem?_eq_getElem hk']
      rfl
    obtain ⟨xs, h', u, e⟩ := urn_rest (Δ := Δ) (gl := gl) hC0 hC1 ns lap ns[k] h hl h0 h1
    refine ⟨xs, u, ?_⟩
    have t := tidy_new (b := h) (t := h') (ur_flats u)
    simp only [run, F_law_urn, B_law_urn]
    unfold exs
    simp only [List.length_cons, List.length_nil, if_true, List.map_cons, List.map_nil, List.replicate, List.cons_append, List.nil_append]
    simp only [ex, ev, evs, asn, bltD, cmpD, ixD, List.getElem?_cons_zero, List.getElem?_cons_succ, R.bind_ok, R.toF_ok, R.calm_ok, ml, hlap, ek, decide_true, List.set]
    rw [e]
    exact t
  · obtain ⟨ms, ec, lc⟩ := cut_ints ns none (some 5)
    have m1 : mulOk cA lap = true := mulOk_of (B := 13) (C := 10) (by unfold Bt; omega) (by unfold Bt; omega) (by decide)
    obtain ⟨xs, h', u, e⟩ := urn_rest (Δ := Δ) (gl := gl) hC0 hC1 ns lap (cA * lap + cB + Int.fmod ms.sum 999769) (h ++ [.lst (ms.map D.int)]) hl h0 h1
    refine ⟨xs, u, ?_⟩
    have t := tidy_new (b := h) (t := [.lst (ms.map D.int)] ++ h') (ur_flats u)
    have q : (h ++ [C.lst (ms.map D.int)])[h.length]? = some (.lst (ms.map D.int)) := by simp
    simp only [run, F_law_urn, B_law_urn]
    unfold exs
    simp only [List.length_cons, List.length_nil, if_true, List.map_cons, List.map_nil, List.replicate, List.cons_append, List.nil_append]
    simp only [ex, ev, evs, evo, asn, bltD, cmpD, ixD, bop, getI, slD, ec, alloc, listAt, q, intsOf_ints, m1, List.getElem?_cons_zero, List.getElem?_cons_succ, R.bind_ok, R.toF_ok, R.calm_ok, ml, hlap, decide_false, List.set, if_true, ne_eq, not_false_eq_true, show ¬ ((999769 : Int) = 0) by decide]
    rw [e]
    rw [← List.append_assoc] at t
    exact t
end
end HS

/-! k37: the law. -/
namespace HS
open PySem L2
theorem deeps_ints (rd : Nat → Option PyData) : ∀ ms : List Int, D.deepsW rd (ms.map D.int) = some (ms.map PyData.int)
  | [] => rfl
  | m :: ms => by simp [D.deepsW, D.deepW, deeps_ints rd ms]
theorem canLay_ints : ∀ ms : List Int, PyData.canLayAll0 (ms.map PyData.int) = true
  | [] => rfl
  | m :: ms => by simp [PyData.canLayAll0, PyData.canLay0, canLay_ints ms]
theorem depth_ints : ∀ ms : List Int, PyData.depthAll (ms.map PyData.int) = 0
  | [] => rfl
  | m :: ms => by simp [PyData.depthAll, PyData.depth, depth_ints ms]
theorem shaped_ints (ms : List Int) : SeqAt.shaped (.list (ms.map PyData.int)) = true := by
  simp [SeqAt.shaped, PyData.canLay0, canLay_ints, PyData.depth, depth_ints]
theorem deep_lst {h : Hh} {k : Nat} {ms : List Int} (e : h[k]? = some (.lst (ms.map D.int))) : (D.ref k).deep h = some (.list (ms.map PyData.int)) := by
  show deepR h 8 k = _
  unfold deepR
  rw [e]
  simp [deeps_ints]
theorem eqD_nil {h : Hh} {k j : Nat} {ms : List Int} (e : h[k]? = some (.lst (ms.map D.int))) (e2 : h[j]? = some (.lst [])) : eqD h (.ref k) (.ref j) = some (decide (ms = [])) := by
  have a := deep_lst e
  have b := deep_lst (ms := []) e2
  unfold eqD
  simp only [a, b]
  rw [if_pos ⟨shaped_ints ms, shaped_ints []⟩]
  cases ms with
  | nil => rfl
  | cons m ms => rfl
def rp (d : D) : Option Str := match d with
  | .non => some "None"
  | .int i => some (toString i : String)
  | _ => none
theorem repr_optD {o : Option Nat} (h : Hh) (ho : ∀ k, o = some k → k < 10) : ∃ s : Str, bltD .repr [optD o] h = .ok (.str s) h := by
  cases o with
  | none =>
    have hl : PyData.none.shown.length ≤ sizeLine := by decide
    exact ⟨PyData.none.shown, by simp [bltD, optD, D.deep, D.deepW, PyData.hasDict, PyData.showable, PyData.depth, hl]⟩
  | some k =>
    have hk := ho k rfl
    have : k = 0 ∨ k = 1 ∨ k = 2 ∨ k = 3 ∨ k = 4 ∨ k = 5 ∨ k = 6 ∨ k = 7 ∨ k = 8 ∨ k = 9 := by omega
    have key : ∀ i : Int, 0 ≤ i → i < 10 → (PyData.int i).shown.length ≤ sizeLine → ∃ s : Str, bltD .repr [.int i] h = .ok (.str s) h := fun i h0 h1 hl => by
      refine ⟨(PyData.int i).shown, ?_⟩
      have : i.natAbs.log2 < 1920 := by
        have : i.natAbs.log2 ≤ 4 := (show Bt 4 i by unfold Bt; omega).log
        omega
      simp [bltD, D.deep, D.deepW, PyData.hasDict, PyData.showable, PyData.depth, this, hl]
    rcases this with rfl | rfl | rfl | rfl | rfl | rfl | rfl | rfl | rfl | rfl <;> exact key _ (by decide) (by decide) (by decide)
/-- the numbers of the good ones -/
def good (g : Rat) : Nat → List Rat → List Int
  | _, [] => []
  | s, e :: es => if e ≤ g then (s : Int) :: good g (s + 1) es else good g (s + 1) es
theorem good_head (g : Rat) : ∀ (s : Nat) (es : List Rat), match good g s es with
    | [] => fstLe g s es = none
    | i :: _ => ∃ k : Nat, fstLe g s es = some k ∧ i = k ∧ k < s + es.length
  | s, [] => rfl
  | s, e :: es => by
    unfold good fstLe
    by_cases h : e ≤ g
    · simp only [h, if_true]
      exact ⟨s, rfl, rfl, by simp⟩
    · simp only [h, if_false]
      have := good_head g (s + 1) es
      generalize good g (s + 1) es = l at this ⊢
      cases l with
      | nil => exact this
      | cons i l =>
        obtain ⟨k, a, b, c⟩ := this
        exact ⟨k, a, b, by simp; omega⟩
theorem good_len (g : Rat) : ∀ (s : Nat) (es : List Rat), (good g s es).length ≤ es.length
  | s, [] => by simp [good]
  | s, e :: es => by
    unfold good
    have := good_len g (s + 1) es
    split <;> simp <;> omega
theorem upFrom_cons (s k : Nat) : upFrom (s : Int) (k + 1) = .int s :: upFrom ((s + 1 : Nat) : Int) k := by
  unfold upFrom
  rw [List.range_succ_eq_map, List.map_cons, List.map_map]
  simp [Function.comp_def]
  intro a _
  omega
theorem lc_good {el : D → Hh → R (Option D)} {g : Rat} (h : Hh) : ∀ (es : List Rat) (s : Nat) (acc : List Int), (∀ i e, es[i]? = some e → el (.int ((s + i : Nat) : Int)) h = .ok (if e ≤ g then some (.int ((s + i : Nat) : Int)) else none) h) → acc.length + es.length < 1000 →
    lcL [] el (upFrom (s : Int) es.length) (acc.map D.int) h = alloc (.lst ((acc ++ good g s es).map D.int)) h
  | [], s, acc, hel, hl => by
    have : acc.length ≤ sizeLine := Nat.le_trans (show acc.length ≤ 1000 by simp at hl; omega) (by decide)
    simp [upFrom, lcL, gsOk_nil, good, this]
  | e :: es, s, acc, hel, hl => by
    have hs : acc.length < sizeLine := Nat.lt_of_lt_of_le (show acc.length < 1001 by simp at hl; omega) (by decide)
    rw [List.length_cons, upFrom_cons]
    unfold lcL
    rw [if_pos ⟨gsOk_nil _, by simpa using hs⟩]
    have h0 := hel 0 e rfl
    simp only [Nat.add_zero] at h0
    rw [h0, R.bind_ok]
    have tl : ∀ i x, es[i]? = some x → el (.int ((s + 1 + i : Nat) : Int)) h = .ok (if x ≤ g then some (.int ((s + 1 + i : Nat) : Int)) else none) h := fun i x hx => by
      have := hel (i + 1) x (by simpa using hx)
      rw [show s + (i + 1) = s + 1 + i by omega] at this
      exact this
    by_cases hg : e ≤ g
    · simp only [hg, if_true, good]
      have := lc_good h es (s + 1) (acc ++ [(s : Int)]) tl (by simp at hl ⊢; omega)
      simp at this ⊢
      exact this
    · simp only [hg, if_false, good]
      exact lc_good h es (s + 1) acc tl (by simp at hl; omega)
end HS

/-! k37: the law's turns. -/
namespace HS
open PySem L2
theorem UAt.app {n N : Nat} {h t : Hh} (u : UAt n N h) : UAt n N (h ++ t) := by
  have l := u.lt
  obtain ⟨xs, e, x⟩ := u
  exact ⟨xs, by rw [List.getElem?_append_left l]; exact e, x⟩
theorem at_app {h t : Hh} {m : Nat} {c : C} (e : h[m]? = some c) : (h ++ t)[m]? = some c := by
  rw [List.getElem?_append_left (List.getElem?_eq_some_iff.mp e).1]; exact e
theorem cut5 (xs : List D) : cutD xs none (some 5) = xs.take 5 := by
  unfold cutD
  rw [show HT.sIx xs.length xs.length (some 5) = min 5 xs.length from HT.sIx_nat xs.length xs.length 5, HT.sIx_none]
  simp only [List.drop_zero, Nat.sub_zero]
  rw [← List.take_eq_take_min]
def S_right (f : Fn) : Prop := ∀ (n : Nat) h, UAt n 0 h → ∃ h', f [.ref n] h = .ok (.bl true) h'
section
variable {Δ : Nat → Fn} {gl : Nat → D}
theorem atI_nat {xs : List D} {i : Nat} (hi : i < xs.length) : atI xs ((i : Nat) : Int) = xs[i]? := by
  have : ixN xs.length (i : Int) = some i := by
    unfold ixN
    simp
    omega
  unfold atI
  rw [this]
  rfl
theorem sub_nn (g x : Rat) : (0 ≤ (g - x).num) = (x ≤ g) := by
  rw [Rat.num_nonneg]
  exact propext ⟨fun h => by grind, fun h => by grind⟩
theorem lc_good0 {el : D → Hh → R (Option D)} {g : Rat} (h : Hh) (es : List Rat) (hel : ∀ (i : Nat) e, es[i]? = some e → el (.int (i : Int)) h = .ok (if e ≤ g then some (.int (i : Int)) else none) h) (hl : es.length < 1000) :
    lcL [] el (upFrom 0 es.length) [] h = alloc (.lst ((good g 0 es).map D.int)) h := by
  have q := lc_good (el := el) (g := g) h es 0 [] (fun i e he => by rw [Nat.zero_add]; exact hel i e he) (by simpa using hl)
  rw [List.nil_append] at q
  exact q
theorem right_el {j m : Nat} {g : Rat} {E : List Rat} {h2 : Hh} (v0 v1 v2 v3 z5 z7 z8 z9 : Option D) (hm2 : h2[m]? = some (.lst (E.map fr))) (sub : ∀ x ∈ E, Δ j [fr g, fr x] h2 = .ok (fr (g - x)) h2) (i : Nat) (x : Rat) (hx : E[i]? = some x) :
    evt Δ gl (.so (.cmp .GtE (.idx (.call j (.cons (.var 6) (.cons (.idx (.var 4) (.var 8)) .nil))) (.int 0)) (.int 0))) [v0, v1, v2, v3, some (.ref m), z5, some (fr g), z7, some (.int (i : Int)), z9] h2 = .ok (decide (x ≤ g)) h2 := by
  have hi : i < E.length := (List.getElem?_eq_some_iff.mp hx).1
  have ai : atI (E.map fr) ((i : Nat) : Int) = some (fr x) := by
    rw [atI_nat (by simpa using hi), List.getElem?_map, hx]
    rfl
  have sx := sub x (List.mem_of_getElem? hx)
  have sg := sub_nn g x
  simp only [evt, ev, evs, List.getElem?_cons_zero, List.getElem?_cons_succ, R.bind_ok, ixD, listAt, hm2, ai, sx]
  unfold fr
  simp only [atI_0, R.bind_ok, cmpD, asBl, sg]
theorem ev_lc {elt : E} {t : T} {it : It} {tt : Op} {own : List Nat} {ρ : En} {h h1 : Hh} {p : List D} {gs : Gs} (e : evi Δ gl it ρ h = .ok (p, gs) h1) :
    ev Δ gl (.lc elt t it tt own) ρ h = lcL gs (fun d h => ((asn Δ gl t d (wipeD ρ own) h).bind fun ρ1 h => (evt Δ gl tt ρ1 h).bind fun b h => if b = true then (ev Δ gl elt ρ1 h).bind fun y h => .ok (some y) h else .ok none h).calm) p [] h1 := by
  rw [ev, e]
  rfl
theorem rng1 {j : Int} (e : small62 j = true) (h : Hh) : rngD [.int j] h = .ok (upFrom 0 j.toNat, []) h := by
  unfold rngD
  exact if_pos e
theorem evi_rng1 {es : Es} {ρ : En} {h h1 : Hh} {k : Nat} (e : evs Δ gl es ρ h = .ok [.int (k : Int)] h1) (s : small62 (k : Int) = true) : evi Δ gl (.rng es) ρ h = .ok (upFrom 0 k, []) h1 := by
  rw [evi, e, R.bind_ok, rng1 s, Int.toNat_natCast]
theorem right_lc {j m : Nat} {g : Rat} {E : List Rat} {h2 : Hh} (v0 v1 v2 v3 z5 z7 z8 z9 : Option D) (hm2 : h2[m]? = some (.lst (E.map fr))) (lenE : E.length ≤ 7) (sub : ∀ x ∈ E, Δ j [fr g, fr x] h2 = .ok (fr (g - x)) h2) :
    ev Δ gl (.lc (.var 8) (.nm 8) (.rng (.cons (.blt .len (.cons (.var 4) .nil)) .nil)) (.so (.cmp .GtE (.idx (.call j (.cons (.var 6) (.cons (.idx (.var 4) (.var 8)) .nil))) (.int 0)) (.int 0))) [8]) [v0, v1, v2, v3, some (.ref m), z5, some (fr g), z7, z8, z9] h2 = alloc (.lst ((good g 0 E).map D.int)) h2 := by
  have e62 : small62 (E.length : Int) = true := by
    unfold small62
    rw [decide_eq_true_iff]
    omega
  have ea : evs Δ gl (.cons (.blt .len (.cons (.var 4) .nil)) .nil) [v0, v1, v2, v3, some (.ref m), z5, some (fr g), z7, z8, z9] h2 = .ok [.int (E.length : Nat)] h2 := by
    simp [evs, ev, bltD, listAt, hm2]
  have elc := evi_rng1 (Δ := Δ) (gl := gl) ea e62
  rw [ev_lc elc]
  refine lc_good0 h2 E (fun i x hx => ?_) (by omega)
  have el := right_el (Δ := Δ) (gl := gl) v0 v1 v2 v3 z5 z7 z8 z9 hm2 sub i x hx
  simp only [asn, wipeD, List.set, R.bind_ok, el]
  by_cases hxg : x ≤ g
  · simp only [hxg, decide_true, if_true, ev, List.getElem?_cons_zero, List.getElem?_cons_succ, R.bind_ok, R.calm_ok]
  · simp only [hxg, decide_false, if_false, Bool.false_eq_true, R.calm_ok]
end
end HS

/-! k37: the law. -/
namespace HS
open PySem L2
section
variable {Δ : Nat → Fn} {gl : Nat → D}
theorem exs_nx {s : S} {ss : Ss} {ρ ρ1 : En} {h h1 : Hh} (e : ex Δ gl s ρ h = .ok (.nx ρ1) h1) : exs Δ gl (.cons s ss) ρ h = exs Δ gl ss ρ1 h1 := by
  rw [exs, e]; rfl
theorem ex_asg {i : Nat} {e : E} {ρ : En} {h h1 : Hh} {d : D} (q : ev Δ gl e ρ h = .ok d h1) : ex Δ gl (.asg (.nm i) e) ρ h = .ok (.nx (ρ.set i (some d))) h1 := by
  rw [ex, q]
  simp [asn, R.calm]
theorem ex_no {c : E} {a : Ss} {ρ : En} {h h1 : Hh} (q : ev Δ gl c ρ h = .ok (.bl false) h1) : ex Δ gl (.ife c a .nil) ρ h = .ok (.nx ρ) h1 := by
  rw [ex, q]
  simp [asBl, exs]
theorem ev_same {a b : E} {ρ : En} {h : Hh} {s : Str} (q : ev Δ gl a ρ h = .ok (.str s) h) (r : ev Δ gl b ρ h = .ok (.str s) h) : ev Δ gl (.cmp .NotEq a b) ρ h = .ok (.bl false) h := by
  rw [ev, q, R.bind_ok, r, R.bind_ok]
  simp [cmpD, eqD]
theorem ev_repr {a : E} {ρ : En} {h h1 : Hh} {d : D} {r : R D} (q : ev Δ gl a ρ h = .ok d h1) (e : bltD .repr [d] h1 = r) : ev Δ gl (.blt .repr (.cons a .nil)) ρ h = r := by
  rw [ev]
  simp only [evs, q, R.bind_ok, e]
theorem right_turn {i j k : Nat} (hg : S_gap (Δ i)) (hs : S_op (· - ·) (Δ j)) (he : S_errorsFor (Δ k)) {n N m : Nat} {c r e : Rat} {h : Hh} (w : Wd c r) (se : Sz 16 e) (pe : 0 ≤ e.num) (ua : UAt n N h) (hN : N ≤ 800000) (hmn : m ≠ n) (hm : h[m]? = some (.lst ((errs c r 6 e).map fr))) (z5 z6 z7 z8 z9 : Option D) :
    ∃ y6 y7 y8 y9 h', exs Δ gl (L_law_right_0 i j k) [some (.ref n), some (fr c), some (fr r), some (fr e), some (.ref m), z5, z6, z7, z8, z9] h = .ok (.nx [some (.ref n), some (fr c), some (fr r), some (fr e), some (.ref m), z5, y6, y7, y8, y9]) h' ∧ UAt n (N + 6) h' ∧ h'[m]? = some (.lst ((errs c r 6 e).map fr)) := by
  have dE := fun g => due_errs c r g 6 0 e
  have szE := errs_sz w 6 16 e se (by decide)
  have neE := errs_ne c r 6 e
  have lenE := errs_len c r 6 e
  revert hm dE szE neE lenE
  generalize errs c r 6 e = E
  intro hm dE szE neE lenE
  have hml : m < h.length := (List.getElem?_eq_some_iff.mp hm).1
  have hnl : n < h.length := ua.lt
  have ne5 : E.take 5 ≠ [] := by
    cases E with
    | nil => exact absurd rfl neE
    | cons _ _ => simp
  obtain ⟨g, h2, g0, gs, e1, u2⟩ := hg n N h.length (E.take 5) (h ++ [.lst ((E.take 5).map fr)]) ua.app (by omega) (by omega) (by simp) ne5 (by simp; omega) (fun x hx => szE x (List.mem_of_mem_take hx))
  have hm2 : h2[m]? = some (.lst (E.map fr)) := by
    rw [u2.oth m hmn (by simp; omega)]
    exact at_app hm
  have sub : ∀ x ∈ E, Δ j [fr g, fr x] h2 = .ok (fr (g - x)) h2 := fun x hx => hs g x 3000 2977 h2 gs (szE x hx) (by decide)
  have s1 : ex Δ gl (.asg (.nm 6) (.call i (.cons (.var 0) (.cons (.slc (.var 4) .no (.so (.int 5))) .nil)))) [some (.ref n), some (fr c), some (fr r), some (fr e), some (.ref m), z5, z6, z7, z8, z9] h = .ok (.nx [some (.ref n), some (fr c), some (fr r), some (fr e), some (.ref m), z5, some (fr g), z7, z8, z9]) h2 := by
    refine ex_asg ?_
    have cq : cutD (E.map fr) none (some 5) = (E.take 5).map fr := by rw [cut5, List.map_take]
    simp only [ev, evs, evo, getI, slD, listAt, hm, cq, alloc, List.getElem?_cons_zero, List.getElem?_cons_succ, R.bind_ok, e1]
  have l7 := right_lc (Δ := Δ) (gl := gl) (some (.ref n)) (some (fr c)) (some (fr r)) (some (fr e)) z5 z7 z8 z9 hm2 (by omega) sub
  have s2 := ex_asg (i := 7) l7
  have hf := fun h => he c r e g h w se pe g0 gs
  rw [dE g] at hf
  have gh := good_head g 0 E
  have h10 : ∀ k, fstLe g 0 E = some k → k < 10 := fun k hk => by
    generalize good g 0 E = l at gh
    cases l with
    | nil => rw [gh] at hk; cases hk
    | cons i l =>
      obtain ⟨k', a, b, c'⟩ := gh
      rw [hk] at a
      cases a
      omega
  have q1 : (h2 ++ [C.lst ((good g 0 E).map D.int)] ++ [C.lst []])[h2.length]? = some (.lst ((good g 0 E).map D.int)) := by simp
  have q2 : (h2 ++ [C.lst ((good g 0 E).map D.int)] ++ [C.lst []])[(h2 ++ [C.lst ((good g 0 E).map D.int)]).length]? = some (.lst []) := by simp
  have eq := eqD_nil q1 q2
  generalize hh4 : h2 ++ [C.lst ((good g 0 E).map D.int)] ++ [C.lst []] = h4 at q1 q2 eq
  obtain ⟨s, es⟩ := repr_optD (o := fstLe g 0 E) h4 h10
  have s3 : ex Δ gl (.asg (.nm 9) (.ife (.cmp .NotEq (.var 7) (.lst .nil)) (.idx (.var 7) (.int 0)) .non)) [some (.ref n), some (fr c), some (fr r), some (fr e), some (.ref m), z5, some (fr g), some (.ref h2.length), z8, z9] (h2 ++ [C.lst ((good g 0 E).map D.int)]) = .ok (.nx [some (.ref n), some (fr c), some (fr r), some (fr e), some (.ref m), z5, some (fr g), some (.ref h2.length), z8, some (optD (fstLe g 0 E))]) h4 := by
    refine ex_asg ?_
    have l0 : lineOk ([] : List D).length = true := by decide
    simp only [ev, evs, alloc, cmpD, List.getElem?_cons_zero, List.getElem?_cons_succ, R.bind_ok, l0, if_true, hh4, eq]
    generalize good g 0 E = l at gh q1
    cases l with
    | nil =>
      simp only [decide_true, Bool.not_true]
      rw [gh]
      rfl
    | cons x l =>
      obtain ⟨k', a, b, c'⟩ := gh
      simp only [reduceCtorEq, decide_false, Bool.not_false, ixD, listAt, q1, List.map_cons, atI_0]
      rw [a, b]
      rfl
  have ps : ∀ a, ev Δ gl a [some (.ref n), some (fr c), some (fr r), some (fr e), some (.ref m), z5, some (fr g), some (.ref h2.length), z8, some (optD (fstLe g 0 E))] h4 = .ok (optD (fstLe g 0 E)) h4 → ex Δ gl (.ife (.cmp .NotEq (.blt .repr (.cons a .nil)) (.blt .repr (.cons (.var 9) .nil))) (.cons (.ret (.bl false)) .nil) .nil) [some (.ref n), some (fr c), some (fr r), some (fr e), some (.ref m), z5, some (fr g), some (.ref h2.length), z8, some (optD (fstLe g 0 E))] h4 = .ok (.nx [some (.ref n), some (fr c), some (fr r), some (fr e), some (.ref m), z5, some (fr g), some (.ref h2.length), z8, some (optD (fstLe g 0 E))]) h4 := fun a ha =>
    ex_no (ev_same (ev_repr ha es) (ev_repr (by simp only [ev, List.getElem?_cons_zero, List.getElem?_cons_succ]) es))
  have s4 := ps (.call k (.cons (.var 1) (.cons (.var 2) (.cons (.var 3) (.cons (.var 6) .nil))))) (by
    simp only [ev, evs, List.getElem?_cons_zero, List.getElem?_cons_succ, R.bind_ok, hf])
  have s5 := ps (.callk k .nil [3, 2, 1, 0] (.cons (.var 6) (.cons (.var 3) (.cons (.var 2) (.cons (.var 1) .nil))))) (by
    simp only [ev, evs, List.getElem?_cons_zero, List.getElem?_cons_succ, R.bind_ok, List.nil_append, List.map_cons, List.map_nil, List.getD_cons_zero, List.getD_cons_succ, hf])
  refine ⟨some (fr g), some (.ref h2.length), z8, some (optD (fstLe g 0 E)), h4, ?_, ?_, ?_⟩
  · exact (exs_nx s1).trans ((exs_nx s2).trans ((exs_nx s3).trans ((exs_nx s4).trans ((exs_nx s5).trans (by rw [exs])))))
  · rw [← hh4]
    exact u2.at_.app.app
  · rw [← hh4]
    exact at_app (at_app hm2)
theorem right_loop {i j k : Nat} (hg : S_gap (Δ i)) (hs : S_op (· - ·) (Δ j)) (he : S_errorsFor (Δ k)) {n m : Nat} {c r e : Rat} (w : Wd c r) (se : Sz 16 e) (pe : 0 ≤ e.num) (hmn : m ≠ n) : ∀ (items : List D) (N : Nat) (h : Hh) (z5 z6 z7 z8 z9 : Option D), UAt n N h → N + 6 * items.length ≤ 800000 → h[m]? = some (.lst ((errs c r 6 e).map fr)) →
    ∃ ρ' h', forL [] (fun d ρ h => R.ok (List.set ρ 5 (some d)) h) (fun ρ h => exs Δ gl (L_law_right_0 i j k) ρ h) items [some (.ref n), some (fr c), some (fr r), some (fr e), some (.ref m), z5, z6, z7, z8, z9] h = .ok (.nx ρ') h'
  | [], N, h, z5, z6, z7, z8, z9, ua, hN, hm => ⟨_, h, by simp only [forL]; rw [if_pos (gsOk_nil h)]⟩
  | d :: items, N, h, z5, z6, z7, z8, z9, ua, hN, hm => by
    obtain ⟨y6, y7, y8, y9, h', e1, u1, m1⟩ := right_turn (Δ := Δ) (gl := gl) hg hs he w se pe ua (by simp at hN; omega) hmn hm (some d) z6 z7 z8 z9
    obtain ⟨ρ', h'', e2⟩ := right_loop hg hs he w se pe hmn items (N + 6) h' (some d) y6 y7 y8 y9 u1 (by simp at hN ⊢; omega) m1
    refine ⟨ρ', h'', ?_⟩
    rw [forL, if_pos (gsOk_nil h), R.calm_ok, R.bind_ok]
    have st : List.set [some (D.ref n), some (fr c), some (fr r), some (fr e), some (.ref m), z5, z6, z7, z8, z9] 5 (some d) = [some (D.ref n), some (fr c), some (fr r), some (fr e), some (.ref m), some d, z6, z7, z8, z9] := rfl
    rw [st, e1, R.bind_ok]
    exact e2
theorem s_law_right {i j k l m o : Nat} (hw : S_world (Δ i)) (hf : S_first (Δ j)) (hes : S_errsOf (Δ k)) (hg : S_gap (Δ l)) (hs : S_op (· - ·) (Δ m)) (he : S_errorsFor (Δ o)) : S_right (run Δ gl (F_law_right i j k l m o)) := by
  intro n h ua
  obtain ⟨c, r, h1, w, e1, u1⟩ := hw n 0 h ua (by decide)
  obtain ⟨e, h2, ⟨se, _⟩, pe, e2, u2⟩ := hf n 6 c h1 u1.at_ (by decide) w.sc w.cp
  have e3 := hes c r e h2 w se
  have nl := u2.at_.lt
  obtain ⟨ρ', h', e4⟩ := right_loop (Δ := Δ) (gl := gl) hg hs he w se pe (m := h2.length) (n := n) (by omega) (upFrom 0 3) 12 (h2 ++ [.lst ((errs c r 6 e).map fr)]) none none none none none u2.at_.app (by decide) (by simp)
  have e5 : small62 3 = true := by decide
  have t : ∃ h9, tidy h (.bl true) h' = .ok (.bl true) h9 := by
    rcases tidy_flat (h := h) (h' := h') (d := .bl true) rfl with q | q
    · exact ⟨_, q⟩
    · exact ⟨_, q⟩
  obtain ⟨h9, t⟩ := t
  refine ⟨h9, ?_⟩
  simp [run, F_law_right, B_law_right, exs, ex, ev, evs, evi, asn, asns, rngD, e5, R.calm, List.set, e1, e2, e3, e4, t]
def S_law (f : Fn) : Prop := ∀ (ns : List Int), ns.length ≤ 63 → ∃ h', f [.fz (ns.map D.int)] [] = .ok (.bl true) h'
theorem s_law {i j : Nat} (hr : S_right (Δ i)) (hu : S_urn (Δ j)) : S_law (run Δ gl (F_law i j)) := by
  intro ns hl
  obtain ⟨x1, u1, e1⟩ := hu ns 0 [] hl (by decide) (by decide)
  obtain ⟨h1, r1⟩ := hr 0 [.lst x1] ⟨x1, rfl, u1⟩
  obtain ⟨x2, u2, e2⟩ := hu ns 1 h1 hl (by decide) (by decide)
  obtain ⟨h2, r2⟩ := hr h1.length (h1 ++ [.lst x2]) ⟨x2, by simp, u2⟩
  have e5 : small62 2 = true := by decide
  have up : upFrom 0 2 = [.int 0, .int 1] := rfl
  have s0 : (0 : Nat) < sizeLine := by decide
  have s1 : (1 : Nat) < sizeLine := by decide
  have s2 : (2 : Nat) ≤ sizeLine := by decide
  have t : ∃ h9, tidy [] (.bl true) (h2 ++ [.lst [.bl true, .bl true]]) = .ok (.bl true) h9 := by
    rcases tidy_flat (h := []) (h' := h2 ++ [.lst [.bl true, .bl true]]) (d := .bl true) rfl with q | q
    · exact ⟨_, q⟩
    · exact ⟨_, q⟩
  obtain ⟨h9, t⟩ := t
  simp only [List.length_nil, List.nil_append] at e1
  refine ⟨h9, ?_⟩
  simp [run, F_law, B_law, exs, ex, ev, evs, evi, evt, asn, rngD, e5, up, wipeD, lcL, gsOk_nil, s0, s1, s2, R.calm, List.set, e1, r1, e2, r2, alloc, bltD, listAt, blsOf, t]
end
end HS

/-! What repr tells of data: how long it is. -/
namespace HS
open PySem L2
/-- the written data is short and can be shown -/
structure Shw (d : PyData) (w k : Nat) : Prop where
  sh : d.showable = true
  ln : d.shown.length ≤ w
  dp : d.depth ≤ k
structure Shws (ds : List PyData) (w k : Nat) : Prop where
  sh : PyData.showableAll ds = true
  ln : piled (PyData.shownAll ds) ≤ w
  dp : PyData.depthAll ds ≤ k
theorem Shw.mono {d : PyData} {w k w' k' : Nat} (h : Shw d w k) (a : w ≤ w') (b : k ≤ k') : Shw d w' k' := ⟨h.sh, Nat.le_trans h.ln a, Nat.le_trans h.dp b⟩
theorem Shws.mono {d : List PyData} {w k w' k' : Nat} (h : Shws d w k) (a : w ≤ w') (b : k ≤ k') : Shws d w' k' := ⟨h.sh, Nat.le_trans h.ln a, Nat.le_trans h.dp b⟩
theorem Shws.nil {w k : Nat} : Shws [] w k := ⟨rfl, by simp [PyData.shownAll, piled], by simp [PyData.depthAll]⟩
theorem Shws.cons {d : PyData} {ds : List PyData} {w1 w2 w k : Nat} (h : Shw d w1 k) (g : Shws ds w2 k) (e : w1 + 2 + w2 ≤ w) : Shws (d :: ds) w k := by
  refine ⟨by simp [PyData.showableAll, h.sh, g.sh], ?_, ?_⟩
  · rw [PyData.shownAll, piled_cons]
    have := h.ln
    have := g.ln
    omega
  · have := h.dp
    have := g.dp
    rw [PyData.depthAll]
    omega
theorem tupleText_le (ts : List Str) : (tupleText ts).length ≤ piled ts + 3 := by
  unfold tupleText
  rw [strLen_append, strLen_append]
  have e1 : ((("(" : String) : Str)).length = 1 := rfl
  have e3 : (((if ts.length == 1 then ",)" else ")" : String) : Str)).length ≤ 2 := by split <;> decide
  rw [e1]
  cases ts with
  | nil => show 1 + (Str.join ", " []).length + _ ≤ _; have : (Str.join ", " []).length = 0 := rfl; omega
  | cons t ts =>
    have := join_length_add (t :: ts) (by simp)
    omega
theorem listText_le (ts : List Str) : (listText ts).length ≤ piled ts + 3 := by
  unfold listText
  rw [strLen_append]
  have e3 : ((("]" : String) : Str)).length = 1 := rfl
  rw [e3]
  cases ts with
  | nil => show (("[" : String) : Str).length + 1 ≤ _; have : ((("[" : String) : Str)).length = 1 := rfl; omega
  | cons t ts =>
    rw [textFrom, textFrom_length_pos _ _ _ (Nat.succ_pos 0), strLen_append, strLen_append, piled_cons]
    have e1 : ((("[" : String) : Str)).length = 1 := rfl
    have e2 : (((if 0 > 0 then ", " else "" : String) : Str)).length = 0 := rfl
    rw [e1, e2]
    omega
theorem Shw.tup {ds : List PyData} {w k : Nat} (h : Shws ds w k) : Shw (.tuple ds) (w + 3) (k + 1) := by
  refine ⟨by simp [PyData.showable, h.sh], ?_, ?_⟩
  · rw [PyData.shown]
    have := tupleText_le (PyData.shownAll ds)
    have := h.ln
    omega
  · have := h.dp
    rw [PyData.depth]
    omega
theorem Shw.lst {ds : List PyData} {w k : Nat} (h : Shws ds w k) : Shw (.list ds) (w + 3) (k + 1) := by
  refine ⟨by simp [PyData.showable, h.sh], ?_, ?_⟩
  · rw [PyData.shown]
    have := listText_le (PyData.shownAll ds)
    have := h.ln
    omega
  · have := h.dp
    rw [PyData.depth]
    omega
theorem Shw.int {i : Int} {B k : Nat} (h : Bt B i) (hB : B ≤ 1919) : Shw (.int i) (B + 2) k := by
  have hl := h.log
  refine ⟨by simp [PyData.showable]; omega, ?_, by simp [PyData.depth]⟩
  have := int_text_length_le (a := i) (k := B + 1) (by omega) (by omega)
  rw [PyData.shown]
  have e : ((toString i : String) : Str).length = (toString i).length := ofString_length _
  omega
theorem Shw.non {k : Nat} : Shw .none 5 k := ⟨rfl, by decide, by simp [PyData.depth]⟩
theorem Shw.bl {b : Bool} {k : Nat} : Shw (.bool b) 6 k := ⟨rfl, by cases b <;> decide, by simp [PyData.depth]⟩

/-- d, read through rd, is short -/
def Rq (rd : Nat → Option PyData) (x : D) (w k : Nat) : Prop := ∃ d, x.deepW rd = some d ∧ Shw d w k
def Rqs (rd : Nat → Option PyData) (xs : List D) (w k : Nat) : Prop := ∃ ds, D.deepsW rd xs = some ds ∧ Shws ds w k
section
variable {rd : Nat → Option PyData} {w k w1 w2 B : Nat}
theorem Rq.mono {x : D} {w' k' : Nat} (h : Rq rd x w k) (a : w ≤ w') (b : k ≤ k') : Rq rd x w' k' := let ⟨d, e, s⟩ := h; ⟨d, e, s.mono a b⟩
theorem Rq.int {i : Int} (h : Bt B i) (hB : B ≤ 1919) : Rq rd (.int i) (B + 2) k := ⟨_, rfl, .int h hB⟩
theorem Rq.non : Rq rd .non 5 k := ⟨_, rfl, .non⟩
theorem Rq.bl {b : Bool} : Rq rd (.bl b) 6 k := ⟨_, rfl, .bl⟩
theorem Rqs.nil : Rqs rd [] w k := ⟨_, rfl, .nil⟩
theorem Rqs.cons {x : D} {xs : List D} (h : Rq rd x w1 k) (g : Rqs rd xs w2 k) (e : w1 + 2 + w2 ≤ w) : Rqs rd (x :: xs) w k := by
  obtain ⟨d, e1, s1⟩ := h
  obtain ⟨ds, e2, s2⟩ := g
  exact ⟨d :: ds, by simp [D.deepsW, e1, e2], Shws.cons s1 s2 e⟩
theorem Rqs.all : ∀ {xs : List D} {w : Nat}, (∀ x ∈ xs, Rq rd x w1 k) → xs.length * (w1 + 2) ≤ w → Rqs rd xs w k
  | [], _, _, _ => .nil
  | x :: xs, w, h, e => by
    refine Rqs.cons (w2 := xs.length * (w1 + 2)) (h x (by simp)) (Rqs.all (w := xs.length * (w1 + 2)) (fun y hy => h y (List.mem_cons_of_mem _ hy)) (Nat.le_refl _)) ?_
    rw [List.length_cons, Nat.add_mul] at e
    omega
theorem Rq.tup {xs : List D} (h : Rqs rd xs w k) : Rq rd (.tup xs) (w + 3) (k + 1) := by
  obtain ⟨ds, e, s⟩ := h
  exact ⟨.tuple ds, by simp [D.deepW, e], Shw.tup s⟩
theorem Rq.lst {h : Hh} {m n : Nat} {xs : List D} (e0 : h[n]? = some (.lst xs)) (hx : Rqs (deepR h m) xs w k) : Rq (deepR h (m + 1)) (.ref n) (w + 3) (k + 1) := by
  obtain ⟨ds, e, s⟩ := hx
  exact ⟨.list ds, by simp [D.deepW, deepR, e0, e], Shw.lst s⟩
theorem Rq.fr {q : Rat} (h : Sz B q) (hB : B ≤ 1919) : Rq rd (HS.fr q) (2 * B + 11) (k + 1) := by
  unfold HS.fr
  have a : Rqs rd [.int (q.den : Int)] (B + 4) k := Rqs.cons (w2 := 0) (Rq.int h.2 hB) .nil (by omega)
  have b : Rqs rd [.int q.num, .int (q.den : Int)] (2 * B + 8) k := Rqs.cons (Rq.int h.1 hB) a (by omega)
  exact (Rq.tup b).mono (by omega) (Nat.le_refl _)
end
/-- what repr tells -/
def shownD (h : Hh) (x : D) : Str := match x.deep h with | some d => d.shown | none => ""
theorem repr_ok {h : Hh} {x : D} {w k : Nat} (r : Rq (deepR h 8) x w k) (hw : w ≤ 16777216) (hk : k ≤ 60) : bltD .repr [x] h = .ok (.str (shownD h x)) h := by
  obtain ⟨d, e, s⟩ := r
  have e : x.deep h = some d := e
  have l : d.shown.length ≤ sizeLine := Nat.le_trans s.ln hw
  have p := s.dp
  simp only [bltD, shownD, e]
  rw [if_pos ⟨s.sh, l, by omega⟩]
/-- two lists with the same items are shown alike -/
theorem shown_lst {h : Hh} {m n : Nat} {xs : List D} (e1 : h[n]? = some (.lst xs)) (e2 : h[m]? = some (.lst xs)) : shownD h (.ref n) = shownD h (.ref m) := by
  simp [shownD, D.deep, D.deepW, deepR, e1, e2]
theorem deeps_fr (rd : Nat → Option PyData) (q : Rat) : (fr q).deepW rd = some (.tuple [.int q.num, .int q.den]) := by simp [fr, D.deepW, D.deepsW]
mutual
/-- what has no cell is shown alike everywhere -/
theorem deep_flat (rd rd' : Nat → Option PyData) : ∀ x : D, x.flat = true → x.deepW rd = x.deepW rd'
  | .non, _ => by simp [D.deepW]
  | .bl _, _ => by simp [D.deepW]
  | .int _, _ => by simp [D.deepW]
  | .str _, _ => by simp [D.deepW]
  | .ty _, _ => by simp [D.deepW]
  | .cls _, _ => by simp [D.deepW]
  | .rng _ _, _ => by simp [D.deepW]
  | .tup xs, f => by simp only [D.deepW]; rw [deep_flats rd rd' xs (by simpa [D.flat] using f)]
  | .fz xs, f => by simp only [D.deepW]; rw [deep_flats rd rd' xs (by simpa [D.flat] using f)]
  | .ref n, f => by simp [D.flat] at f
theorem deep_flats (rd rd' : Nat → Option PyData) : ∀ xs : List D, D.flats xs = true → D.deepsW rd xs = D.deepsW rd' xs
  | [], _ => by simp [D.deepsW]
  | x :: xs, f => by
    simp only [D.flats, Bool.and_eq_true] at f
    simp only [D.deepsW]
    rw [deep_flat rd rd' x f.1, deep_flats rd rd' xs f.2]
end
theorem shown_flat {h h' : Hh} {x : D} (f : x.flat = true) : shownD h x = shownD h' x := by
  unfold shownD D.deep
  rw [deep_flat (deepR h 8) (deepR h' 8) x f]
end HS

/-! k33: the worst equation. -/
namespace HS
open PySem L2
def B_is_between (f_is_whole : Nat) : Ss :=
  (.cons (.ret (.and (.call f_is_whole (.cons (.var 0) .nil)) (.cmp2 .LtE .LtE (.var 1) (.var 0) (.var 2)))) .nil)
def F_is_between (f_is_whole : Nat) : Df := ⟨3, 3, B_is_between f_is_whole⟩
def B_check_number (f_is_between : Nat) : Ss :=
  (.cons (.ife (.not (.call f_is_between (.cons (.var 0) (.cons (.var 1) (.cons (.var 2) .nil))))) (
    (.cons .never .nil)) (.nil)) .nil)
def F_check_number (f_is_between : Nat) : Df := ⟨3, 3, B_check_number f_is_between⟩
def L_worst_errors_0 (f_is_lost_at f_next_error : Nat) : Ss :=
    (.cons (.ife (.call f_is_lost_at (.cons (.var 0) (.cons (.idx (.var 4) (.neg (.int 1))) .nil))) (
      (.cons (.rse 5) .nil)) (.nil)) 
    (.cons (.exp (.app (.var 4) (.call f_next_error (.cons (.var 0) (.cons (.var 1) (.cons (.idx (.var 4) (.neg (.int 1))) .nil)))))) .nil))
def B_worst_errors (f_check_start f_check_number g_MOST_STEPS f_is_lost_at f_next_error : Nat) : Ss :=
  (.cons (.exp (.call f_check_start (.cons (.var 0) (.cons (.var 1) (.cons (.var 2) .nil))))) 
  (.cons (.exp (.call f_check_number (.cons (.var 3) (.cons (.int 0) (.cons (.glb g_MOST_STEPS) .nil))))) 
  (.cons (.asg (.nm 4) (.lst (.cons (.var 2) .nil))) 
  (.cons (.fr (.nm 5) (.rng (.cons (.var 3) .nil)) (L_worst_errors_0 f_is_lost_at f_next_error)) 
  (.cons (.ret (.blt .tuple (.cons (.var 4) .nil))) .nil)))))
def F_worst_errors (f_check_start f_check_number g_MOST_STEPS f_is_lost_at f_next_error : Nat) : Df := ⟨4, 6, B_worst_errors f_check_start f_check_number g_MOST_STEPS f_is_lost_at f_next_error⟩
def B_law_size : Ss :=
  (.cons (.ret (.tup (.cons (.blt .abs (.cons (.idx (.var 0) (.int 0)) .nil)) (.cons (.idx (.var 0) (.int 1)) .nil)))) .nil)
def F_law_size : Df := ⟨1, 1, B_law_size⟩
def B_law_stepped (f__law_size f__law_sub f__law_div f__law_mul : Nat) : Ss :=
  (.cons (.asg (.nm 2) (.call f__law_size (.cons (.var 1) .nil))) 
  (.cons (.asg (.nm 3) (.call f__law_sub (.cons (.var 1) (.cons (.call f__law_div (.cons (.call f__law_mul (.cons (.call f__law_mul (.cons (.var 0) (.cons (.var 1) .nil))) (.cons (.var 2) .nil))) (.cons (.tup (.cons (.int 2) (.cons (.int 1) .nil))) .nil))) .nil)))) 
  (.cons (.ret (.call f__law_sub (.cons (.var 1) (.cons (.call f__law_div (.cons (.var 3) (.cons (.call f__law_sub (.cons (.tup (.cons (.int 1) (.cons (.int 1) .nil))) (.cons (.call f__law_mul (.cons (.var 0) (.cons (.var 2) .nil))) .nil))) .nil))) .nil)))) .nil)))
def F_law_stepped (f__law_size f__law_sub f__law_div f__law_mul : Nat) : Df := ⟨2, 4, B_law_stepped f__law_size f__law_sub f__law_div f__law_mul⟩
/-! ### sizes -/
def ab (q : Rat) : Rat := if q < 0 then -q else q
theorem ab_nn (q : Rat) : 0 ≤ ab q := by unfold ab; split <;> grind
theorem ab_le {q x : Rat} (h : q ≤ x) (g : -q ≤ x) : ab q ≤ x := by unfold ab; split <;> grind
theorem ab_neg (q : Rat) : ab (-q) = ab q := by unfold ab; grind
theorem ab_of {q : Rat} (h : 0 ≤ q) : ab q = q := by unfold ab; rw [if_neg (Rat.not_lt.mpr h)]
theorem num_lt (q : Rat) : q.num < 0 ↔ q < 0 := by
  rw [Rat.lt_iff]; simp
theorem fr_ab (q : Rat) : D.tup [.int (if q.num < 0 then -q.num else q.num), .int q.den] = fr (ab q) := by
  unfold ab fr
  by_cases h : q < 0
  · rw [if_pos h, if_pos ((num_lt q).mpr h)]; rfl
  · rw [if_neg h, if_neg (fun z => h ((num_lt q).mp z))]
theorem Sz.neg {B : Nat} {q : Rat} (h : Sz B q) : Sz B (-q) := ⟨by simpa using h.1.neg, h.2⟩
theorem Sz.ab {B : Nat} {q : Rat} (h : Sz B q) : Sz B (ab q) := by unfold HS.ab; split; exact h.neg; exact h
def S_size (f : Fn) : Prop := ∀ (q : Rat) h, f [fr q] h = .ok (fr (ab q)) h
/-- Newton's step for t - c t |t| / 2 -/
def stp (c t : Rat) : Rat := t - (t - c * t * ab t / 2) / (1 - c * ab t)
theorem stp_eq {c t : Rat} (h : c * ab t ≠ 1) : stp c t = if t < 0 then prt c (ab t) else -(prt c (ab t)) := by
  have h1 := one_sub_ne h
  unfold stp prt
  unfold ab at *
  by_cases ht : t < 0
  · simp only [ht, if_true] at *
    grind
  · simp only [ht, if_false] at *
    grind
theorem sz_stp {c t : Rat} {B : Nat} (hc : Sz 4 c) (ht : Sz B t) (h : c * ab t ≠ 1) : Sz (2 * B + 6) (stp c t) := by
  rw [stp_eq h]
  split
  · exact sz_prt hc ht.ab h
  · exact (sz_prt hc ht.ab h).neg
def S_stepped (f : Fn) : Prop := ∀ (c t : Rat) (B : Nat) h, Sz 4 c → Sz B t → B ≤ 1500 → c * ab t ≠ 1 → f [fr c, fr t] h = .ok (fr (stp c t)) h
def S_btw (f : Fn) : Prop := ∀ (i lo hi : Int) h, f [.int i, .int lo, .int hi] h = .ok (.bl (decide (lo ≤ i) && decide (i ≤ hi))) h
def S_num (f : Fn) : Prop := ∀ (i lo hi : Int) h, lo ≤ i → i ≤ hi → f [.int i, .int lo, .int hi] h = .ok .non h
def S_worst (f : Fn) : Prop := ∀ (c r e : Rat) (k : Nat) h, Wd c r → Sz 16 e → 0 ≤ e.num → k ≤ 6 → (errs c r k e).length = k + 1 → f [fr c, fr r, fr e, .int k] h = .ok (.tup ((errs c r k e).map fr)) h
section
variable {Δ : Nat → Fn} {gl : Nat → D}
theorem s_law_size : S_size (run Δ gl F_law_size) := by
  intro q h
  have e := fr_ab q
  simp [run, F_law_size, B_law_size, exs, ex, ev, evs, bltD, ixD, lineOk, sizeLine]
  rw [← e]
  unfold fr
  simp
  exact tidy_self rfl
theorem s_law_stepped {i j k l : Nat} (hz : S_size (Δ i)) (hs : S_op (· - ·) (Δ j)) (hd : S_over (Δ k)) (hm : S_op (· * ·) (Δ l)) : S_stepped (run Δ gl (F_law_stepped i j k l)) := by
  intro c t B h hc ht hB h1
  have za := ht.ab
  have z1 := hc.mul ht
  have z2 := z1.mul za
  have z3 := z2.div sz2 (by decide)
  have z4 := ht.sub z3
  have z5 := hc.mul za
  have z6 := sz1.sub z5
  have a0 := hz t
  have a1 := fun h => hm c t 4 B h hc ht (by omega)
  have a2 := fun h => hm (c * t) (ab t) _ B h z1 za (by omega)
  have a3 := fun h => hd (c * t * ab t) 2 _ 2 h z2 sz2 (by omega) (by decide)
  have a4 := fun h => hs t (c * t * ab t / 2) B _ h ht z3 (by omega)
  have a5 := fun h => hm c (ab t) 4 B h hc za (by omega)
  have a6 := fun h => hs 1 (c * ab t) 1 _ h sz1 z5 (by omega)
  have a7 := fun h => hd (t - c * t * ab t / 2) (1 - c * ab t) _ _ h z4 z6 (by omega) (one_sub_ne h1)
  have z7 := z4.div z6 (one_sub_ne h1)
  have a8 := fun h => hs t ((t - c * t * ab t / 2) / (1 - c * ab t)) B _ h ht z7 (by omega)
  simp [run, F_law_stepped, B_law_stepped, exs, ex, ev, evs, asn, R.calm, List.set, lineOk, sizeLine, fr_two, fr_one, a0, a1, a2, a3, a4, a5, a6, a7, a8]
  exact tidy_self (fr_flat _)
theorem s_is_between {i : Nat} (hw : S_whole (Δ i)) : S_btw (run Δ gl (F_is_between i)) := by
  intro i lo hi h
  by_cases h1 : lo ≤ i
  · simp [run, F_is_between, B_is_between, exs, ex, ev, evs, hw i h, cmpD, h1]
    exact tidy_self rfl
  · simp [run, F_is_between, B_is_between, exs, ex, ev, evs, hw i h, cmpD, h1]
    exact tidy_self rfl
theorem s_check_number {i : Nat} (hw : S_btw (Δ i)) : S_num (run Δ gl (F_check_number i)) := by
  intro i lo hi h h1 h2
  simp [run, F_check_number, B_check_number, exs, ex, ev, evs, hw i lo hi h, h1, h2, asBl]
  exact tidy_self rfl
theorem ex_exp {e : E} {ρ : En} {h h1 : Hh} {d : D} (q : ev Δ gl e ρ h = .ok d h1) : ex Δ gl (.exp e) ρ h = .ok (.nx ρ) h1 := by
  rw [ex, q]
  simp
theorem ex_for {t : T} {it : It} {b : Ss} {ρ : En} {h h1 : Hh} {p : List D} {gs : Gs} {r : R F} (e : evi Δ gl it ρ h = .ok (p, gs) h1) (q : forL gs (fun d ρ h => asn Δ gl t d ρ h) (fun ρ h => exs Δ gl b ρ h) p ρ h1 = r) : ex Δ gl (.fr t it b) ρ h = r := by
  rw [ex, e]
  exact q
theorem exs_rt {e : E} {ss : Ss} {ρ : En} {h h1 : Hh} {d : D} (q : ev Δ gl e ρ h = .ok d h1) : exs Δ gl (.cons (.ret e) ss) ρ h = .ok (.rt d) h1 := by
  rw [exs, ex, q]
  rfl
theorem wst_loop {tg : D → En → Hh → R En} {bd : En → Hh → R F} {c r : Rat} (w : Wd c r) (h : Hh) (St : Option D → En) (htg : ∀ d z h, tg d (St z) h = .ok (St (some d)) h)
    (hb2 : ∀ (acc : List Rat) (e : Rat) (B : Nat) (z : Option D), Sz B e → B ≤ 2977 → ¬ 1 ≤ c * e → acc.length < 1000 → bd (St z) (h ++ [.lst ((acc ++ [e]).map fr)]) = .ok (.nx (St z)) (h ++ [.lst (((acc ++ [e]) ++ [nxt c r e]).map fr)])) :
    ∀ (items : List D) (acc : List Rat) (B : Nat) (e : Rat) (z : Option D), Sz B e → (B + 31) * 2 ^ items.length ≤ 3008 → acc.length + items.length < 1000 → (errs c r items.length e).length = items.length + 1 →
      ∃ z', forL [] tg bd items (St z) (h ++ [.lst ((acc ++ [e]).map fr)]) = .ok (.nx (St z')) (h ++ [.lst ((acc ++ errs c r items.length e).map fr)])
  | [], acc, B, e, z, he, hB, hlen, hE => ⟨z, by simp [forL, gsOk_nil, errs]⟩
  | d :: items, acc, B, e, z, he, hB, hlen, hE => by
    obtain ⟨hB2, hB3⟩ := pow_step hB
    by_cases hlost : 1 ≤ c * e
    · simp [errs, hlost] at hE
    · simp only [List.length_cons, errs, hlost, if_false, Nat.add_right_cancel_iff] at hE
      obtain ⟨z', e1⟩ := wst_loop w h St htg hb2 items (acc ++ [e]) (2 * B + 31) (nxt c r e) (some d) (sz_nxt w.sc w.sr he (lost_ne hlost)) hB2 (by simp at hlen ⊢; omega) hE
      refine ⟨z', ?_⟩
      unfold forL
      rw [if_pos (gsOk_nil _), htg]
      simp only [R.calm_ok, R.bind_ok, hb2 acc e B (some d) he hB3 hlost (by simp at hlen; omega), List.length_cons, errs, hlost, if_false, e1]
      simp
theorem small_nat {k : Nat} (h : k < 1000000) : small62 (k : Int) = true := by
  unfold small62
  rw [decide_eq_true_iff]
  omega
theorem flat_frs (l : List Rat) : (D.tup (l.map fr)).flat = true := flats_fr l
theorem s_worst_errors {i j k l m : Nat} (hs : S_start (Δ i)) (hg : S_num (Δ j)) (h6 : gl k = .int 6) (hl : S_lost (Δ l)) (hn : S_next (Δ m)) : S_worst (run Δ gl (F_worst_errors i j k l m)) := by
  intro c r e0 n h w he he0 hk hE
  have lu : (upFrom 0 n).length = n := by simp [upFrom]
  have key0 : (16 + 31) * 2 ^ n ≤ 3008 := by
    have : 2 ^ n ≤ 2 ^ 6 := Nat.pow_le_pow_right (by decide) hk
    omega
  obtain ⟨z, e1⟩ := wst_loop (tg := fun d ρ h => asn Δ gl (.nm 5) d ρ h) (bd := fun ρ h => exs Δ gl (L_worst_errors_0 l m) ρ h)
    w h (fun z => [some (fr c), some (fr r), some (fr e0), some (.int n), some (.ref h.length), z]) (fun d z h => by simp [asn, List.set])
    (fun acc e B z he hB hlost hlen => by
      have l1 := fun h => hl c e 4 B h w.sc he (by omega)
      have n1 := fun h => hn c r e B h w.sc w.sr he hB (lost_ne hlost)
      have a1 : atI (acc.map fr ++ [fr e]) (-1) = some (fr e) := atI_last
      have sl : acc.length + 1 < sizeLine := Nat.lt_of_lt_of_le (show acc.length + 1 < 1001 by omega) (by decide)
      simp [L_worst_errors_0, exs, ex, ev, evs, asBl, ixD, listAt, get_end, a1, l1, hlost, n1, lstOk, app, sl])
    (upFrom 0 n) [] 16 e0 none he (by rw [lu]; exact key0) (by rw [lu]; simp; omega) (by rw [lu]; exact hE)
  rw [lu] at e1
  have c1 := hs c r e0 h w.sc w.sr w.cp w.rp w.cr he0
  have c2 := hg n 0 6 h (by omega) (by omega)
  have e4 : small62 (n : Int) = true := small_nat (by omega)
  simp only [List.nil_append, List.map_cons, List.map_nil] at e1
  have key : exs Δ gl (B_worst_errors i j k l m) [some (fr c), some (fr r), some (fr e0), some (.int n), none, none] h = .ok (.rt (.tup ((errs c r n e0).map fr))) (h ++ [.lst ((errs c r n e0).map fr)]) := by
    unfold B_worst_errors
    refine (exs_nx (ex_exp (d := .non) (h1 := h) ?_)).trans ?_
    · simp [ev, evs, c1]
    refine (exs_nx (ex_exp (d := .non) (h1 := h) ?_)).trans ?_
    · simp [ev, evs, h6, c2]
    refine (exs_nx (ex_asg (d := .ref h.length) (h1 := h ++ [.lst [fr e0]]) ?_)).trans ?_
    · simp [ev, evs, lineOk, sizeLine, alloc]
    simp only [List.set]
    refine (exs_nx (ex_for (evi_rng1 (k := n) (by simp [evs, ev]) e4) e1)).trans ?_
    refine exs_rt ?_
    simp [ev, evs, bltD, listAt]
  simp only [run, F_worst_errors, List.length_cons, List.length_nil, if_true, List.map_cons, List.map_nil, List.replicate, List.cons_append, List.nil_append]
  rw [key]
  exact tidy_pre (flat_frs _)
end
end HS

/-! k33: the law's turns. -/
namespace HS
open PySem L2
/-! ### the mathematics -/
theorem one_sub_pos {c e : Rat} (h : c * e < 1) : 0 < 1 - c * e := by grind
theorem prt_mul {c e : Rat} (h : c * e < 1) : prt c e * (2 * (1 - c * e)) = c * e * e := by
  have h1 : c * e ≠ 1 := by grind
  have := two_ne h1
  unfold prt
  grind
theorem prt_nn {c e : Rat} (hc : 0 < c) (he : 0 ≤ e) (h : c * e < 1) : 0 ≤ prt c e := by
  have m := prt_mul h
  have p : 0 < 2 * (1 - c * e) := by grind
  have q : 0 ≤ c * e * e := Rat.mul_nonneg (Rat.mul_nonneg (Rat.le_of_lt hc) he) he
  refine Rat.le_of_mul_le_mul_right (c := 2 * (1 - c * e)) ?_ p
  rw [m, Rat.zero_mul]
  exact q
theorem prt_mono {c x e : Rat} (hc : 0 < c) (hx : 0 ≤ x) (hxe : x ≤ e) (h : c * e < 1) : prt c x ≤ prt c e := by
  have he : 0 ≤ e := Rat.le_trans hx hxe
  have cx : c * x ≤ c * e := Rat.mul_le_mul_of_nonneg_left hxe (Rat.le_of_lt hc)
  have hx1 : c * x < 1 := by grind
  have m := prt_mul h
  have m2 := prt_mul hx1
  have n := prt_nn hc he h
  have p : 0 < 2 * (1 - c * x) := by grind
  refine Rat.le_of_mul_le_mul_right (c := 2 * (1 - c * x)) ?_ p
  rw [m2]
  have a1 : c * x * x ≤ c * e * e := by
    have b1 : c * x * x ≤ c * x * e := Rat.mul_le_mul_of_nonneg_left hxe (Rat.mul_nonneg (Rat.le_of_lt hc) hx)
    have b2 : c * x * e ≤ c * e * e := Rat.mul_le_mul_of_nonneg_right cx he
    exact Rat.le_trans b1 b2
  have a2 : prt c e * (2 * (1 - c * e)) ≤ prt c e * (2 * (1 - c * x)) := Rat.mul_le_mul_of_nonneg_left (by grind) n
  grind
theorem stp_less {c r e x q : Rat} (hc : 0 < c) (hx : ab x ≤ e) (h : c * e < 1) (hq : ab q ≤ r) : ab (stp c x + q) ≤ nxt c r e := by
  have nx := ab_nn x
  have cx : c * ab x ≤ c * e := Rat.mul_le_mul_of_nonneg_left hx (Rat.le_of_lt hc)
  have n1 : c * ab x ≠ 1 := by grind
  have m := prt_mono hc nx hx h
  have z := prt_nn hc nx (by grind)
  have s := stp_eq n1
  unfold nxt
  rw [s]
  generalize prt c (ab x) = p at *
  generalize prt c e = p2 at *
  unfold ab at hq ⊢
  grind
/-- the way away from 0 -/
theorem stp_way {c r e t : Rat} (hc : 0 < c) (ht : ab t = e) (h : c * e < 1) (hr : 0 ≤ r) (w : Rat) (hw : (0 < stp c t → w = 1) ∧ (stp c t < 0 → w = -1) ∧ (w = 1 ∨ w = -1)) : ab (stp c t + w * r) = nxt c r e := by
  have nx := ab_nn t
  have n1 : c * ab t ≠ 1 := by grind
  have z := prt_nn hc nx (by grind)
  have s := stp_eq n1
  rw [ht] at s z
  unfold nxt
  obtain ⟨h1, h2, h3⟩ := hw
  generalize stp c t = b at *
  generalize prt c e = p at *
  unfold ab
  rcases h3 with rfl | rfl
  · grind
  · grind
theorem stp_side {c t : Rat} (hc : 0 < c) (h : c * ab t < 1) : (stp c t ≤ 0 ∧ 0 ≤ t) ∨ (0 ≤ stp c t ∧ t ≤ 0) := by
  have nx := ab_nn t
  have n1 : c * ab t ≠ 1 := by grind
  have z := prt_nn hc nx h
  have s := stp_eq n1
  generalize prt c (ab t) = p at *
  grind
def L_law33_0 (f__law_is_lost f__law_stepped f__law_add f__law_size f__law_frac f__law_nip f__law_mul : Nat) : Ss :=
    (.cons (.ife (.call f__law_is_lost (.cons (.var 1) (.cons (.idx (.var 6) (.neg (.int 1))) .nil))) (
      (.cons .brk .nil)) (.nil)) 
    (.cons (.asg (.nm 10) (.call f__law_stepped (.cons (.var 1) (.cons (.var 5) .nil)))) 
    (.cons (.ife (.cmp .Gt (.bin .mul (.idx (.var 10) (.int 0)) (.idx (.var 5) (.int 0))) (.int 0)) (
      (.cons (.ret (.bl false)) .nil)) (.nil)) 
    (.cons (.asg (.nm 11) (.ife (.or (.cmp .Gt (.idx (.var 10) (.int 0)) (.int 0)) (.and (.cmp .Eq (.idx (.var 10) (.int 0)) (.int 0)) (.cmp .Gt (.var 4) (.int 0)))) (.int 1) (.neg (.int 1)))) 
    (.cons (.asg (.nm 5) (.call f__law_add (.cons (.var 10) (.cons (.tup (.cons (.bin .mul (.var 11) (.idx (.var 2) (.int 0))) (.cons (.idx (.var 2) (.int 1)) .nil))) .nil)))) 
    (.cons (.exp (.app (.var 6) (.call f__law_size (.cons (.var 5) .nil)))) 
    (.cons (.asg (.nm 4) (.bin .sub (.int 0) (.var 4))) 
    (.cons (.asg (.nm 12) (.call f__law_frac (.cons (.bin .sub (.call f__law_nip (.cons (.var 0) (.cons (.int 21) .nil))) (.int 10)) (.cons (.int 10) .nil)))) 
    (.cons (.asg (.nm 7) (.call f__law_add (.cons (.call f__law_stepped (.cons (.var 1) (.cons (.var 7) .nil))) (.cons (.call f__law_mul (.cons (.var 12) (.cons (.var 2) .nil))) .nil)))) 
    (.cons (.exp (.app (.var 8) (.call f__law_size (.cons (.var 7) .nil)))) .nil))))))))))
def B_law33 (f__law_world f__law_first f__law_any_of f__law_is_lost f__law_div f__law_stepped f__law_add f__law_size f__law_frac f__law_nip f__law_mul f_worst_errors f__law_sub : Nat) : Ss :=
  (.cons (.asg (.tup (.cons (.nm 1) (.cons (.nm 2) .nil))) (.call f__law_world (.cons (.var 0) .nil))) 
  (.cons (.asg (.tup (.cons (.nm 3) (.cons (.nm 4) .nil))) (.tup (.cons (.call f__law_first (.cons (.var 0) (.cons (.var 1) .nil))) (.cons (.call f__law_any_of (.cons (.var 0) (.cons (.tup (.cons (.int 1) (.cons (.neg (.int 1)) .nil))) .nil))) .nil)))) 
  (.cons (.asg (.nm 3) (.ife (.call f__law_is_lost (.cons (.var 1) (.cons (.var 3) .nil))) (.call f__law_div (.cons (.tup (.cons (.int 1) (.cons (.int 2) .nil))) (.cons (.var 1) .nil))) (.var 3))) 
  (.cons (.asg (.tup (.cons (.nm 5) (.cons (.nm 6) .nil))) (.tup (.cons (.tup (.cons (.bin .mul (.var 4) (.idx (.var 3) (.int 0))) (.cons (.idx (.var 3) (.int 1)) .nil))) (.cons (.lst (.cons (.var 3) .nil)) .nil)))) 
  (.cons (.asg (.tup (.cons (.nm 7) (.cons (.nm 8) .nil))) (.tup (.cons (.var 5) (.cons (.lst (.cons (.var 3) .nil)) .nil)))) 
  (.cons (.fr (.nm 9) (.rng (.cons (.int 4) .nil)) (L_law33_0 f__law_is_lost f__law_stepped f__law_add f__law_size f__law_frac f__law_nip f__law_mul)) 
  (.cons (.asg (.nm 13) (.bin .sub (.blt .len (.cons (.var 6) .nil)) (.int 1))) 
  (.cons (.asg (.nm 14) (.call f_worst_errors (.cons (.var 1) (.cons (.var 2) (.cons (.var 3) (.cons (.var 13) .nil)))))) 
  (.cons (.ife (.cmp .NotEq (.blt .repr (.cons (.var 14) .nil)) (.blt .repr (.cons (.blt .tuple (.cons (.var 6) .nil)) .nil))) (
    (.cons (.ret (.bl false)) .nil)) (.nil)) 
  (.cons (.ife (.cmp .NotEq (.blt .repr (.cons (.callk f_worst_errors .nil [3, 2, 1, 0] (.cons (.var 13) (.cons (.var 3) (.cons (.var 2) (.cons (.var 1) .nil))))) .nil)) (.blt .repr (.cons (.var 14) .nil))) (
    (.cons (.ret (.bl false)) .nil)) (.nil)) 
  (.cons (.ret (.cmp .Eq (.lc (.var 15) (.nm 15) (.rng (.cons (.bin .add (.var 13) (.int 1)) .nil)) (.so (.cmp .Lt (.idx (.call f__law_sub (.cons (.idx (.var 14) (.var 15)) (.cons (.idx (.var 8) (.var 15)) .nil))) (.int 0)) (.int 0))) [15]) (.lst .nil))) .nil)))))))))))
def F_law33 (f__law_world f__law_first f__law_any_of f__law_is_lost f__law_div f__law_stepped f__law_add f__law_size f__law_frac f__law_nip f__law_mul f_worst_errors f__law_sub : Nat) : Df := ⟨1, 16, B_law33 f__law_world f__law_first f__law_any_of f__law_is_lost f__law_div f__law_stepped f__law_add f__law_size f__law_frac f__law_nip f__law_mul f_worst_errors f__law_sub⟩
theorem num_pos' {q : Rat} : 0 < q.num ↔ 0 < q := by
  rw [Rat.lt_iff]; simp
theorem sgn_mul {a b : Rat} (h : (a ≤ 0 ∧ 0 ≤ b) ∨ (0 ≤ a ∧ b ≤ 0)) : ¬ 0 < a.num * b.num := by
  have n0 : ∀ q : Rat, 0 ≤ q → 0 ≤ q.num := fun q h => Rat.num_nonneg.mpr h
  have n1 : ∀ q : Rat, q ≤ 0 → q.num ≤ 0 := fun q h => by
    have := Rat.not_lt.mpr h
    have z : ¬ 0 < q.num := fun z => this (num_pos'.mp z)
    omega
  rcases h with ⟨h1, h2⟩ | ⟨h1, h2⟩
  · have := Int.mul_nonpos_of_nonpos_of_nonneg (n1 a h1) (n0 b h2)
    omega
  · have := Int.mul_nonpos_of_nonneg_of_nonpos (n0 a h1) (n1 b h2)
    omega
theorem fr_way (r : Rat) {w : Int} (hw : w = 1 ∨ w = -1) : D.tup [.int (w * r.num), .int r.den] = fr (w * r) := by
  rcases hw with rfl | rfl
  · simp [fr]
  · simp [fr, Rat.neg_mul]
section
variable {Δ : Nat → Fn} {gl : Nat → D}
theorem ev_app {l a : E} {ρ : En} {h : Hh} {m : Nat} {xs : List D} {y : D} (q : ev Δ gl l ρ h = .ok (.ref m) h) (e : h[m]? = some (.lst xs)) (r : ev Δ gl a ρ h = .ok y h) (sl : xs.length < sizeLine) : ev Δ gl (.app l a) ρ h = .ok .non (h.set m (.lst (xs ++ [y]))) := by
  rw [ev, q]
  simp only [R.bind_ok, lstOk, e, r, app]
  rw [if_pos sl]
set_option maxHeartbeats 2000000 in
theorem turn33 {i j k l m o p : Nat} (hl : S_lost (Δ i)) (hst : S_stepped (Δ j)) (ha : S_op (· + ·) (Δ k)) (hz : S_size (Δ l)) (hw : S_with (Δ m)) (hn : S_nip (Δ o)) (hm : S_op (· * ·) (Δ p))
    {n N m1 m2 B : Nat} {c r e t x : Rat} {side : Int} {acc zs : List Rat} {h : Hh} (w : Wd c r) (ua : UAt n N h) (hN : N ≤ 900000) (h1n : m1 ≠ n) (h2n : m2 ≠ n) (h12 : m1 ≠ m2)
    (e1 : h[m1]? = some (.lst ((acc ++ [e]).map fr))) (e2 : h[m2]? = some (.lst (zs.map fr))) (l1 : acc.length < 1000) (l2 : zs.length < 1000) (sz : Sz B t) (sx : Sz B x) (hB : B ≤ 1500) (ht : ab t = e) (hx : ab x ≤ e) (nl : ¬ 1 ≤ c * e) (v3 v9 v10 v11 v12 v13 v14 v15 : Option D) :
    ∃ t' x' y10 y11 y12 h', exs Δ gl (L_law33_0 i j k l m o p) [some (.ref n), some (fr c), some (fr r), v3, some (.int side), some (fr t), some (.ref m1), some (fr x), some (.ref m2), v9, v10, v11, v12, v13, v14, v15] h
        = .ok (.nx [some (.ref n), some (fr c), some (fr r), v3, some (.int (0 - side)), some (fr t'), some (.ref m1), some (fr x'), some (.ref m2), v9, y10, y11, y12, v13, v14, v15]) h' ∧
      UAt n (N + 1) h' ∧ h'[m1]? = some (.lst ((acc ++ [e] ++ [nxt c r e]).map fr)) ∧ h'[m2]? = some (.lst ((zs ++ [ab x']).map fr)) ∧ Sz (2 * B + 36) t' ∧ Sz (2 * B + 36) x' ∧ ab t' = nxt c r e ∧ ab x' ≤ nxt c r e := by
  have cp : 0 < c := num_pos'.mp w.cp
  have rp : 0 ≤ r := Rat.num_nonneg.mp w.rp
  have ce : c * e < 1 := Rat.not_le.mp nl
  have se : Sz B e := by rw [← ht]; exact sz.ab
  have c1 : c * ab t ≠ 1 := by rw [ht]; exact lost_ne nl
  have cx : c * ab x ≠ 1 := by
    have : c * ab x ≤ c * e := Rat.mul_le_mul_of_nonneg_left hx (Rat.le_of_lt cp)
    grind
  have f1 := fun h => hl c e 4 B h w.sc se (by omega)
  have f2 := fun h => hst c t B h w.sc sz hB c1
  have f3 := fun h => hst c x B h w.sc sx hB cx
  have sb := sz_stp w.sc sz c1
  have sbx := sz_stp w.sc sx cx
  have sd := stp_side cp (t := t) (by rw [ht]; exact ce)
  have ng := sgn_mul sd
  have mo := mulOk_of sb.1 sz.1 (by omega)
  obtain ⟨wy, hwy⟩ : ∃ wy : Int, wy = if 0 < (stp c t).num ∨ ((stp c t).num = 0 ∧ 0 < side) then 1 else -1 := ⟨_, rfl⟩
  have wy2 : wy = 1 ∨ wy = -1 := by rw [hwy]; split <;> simp
  have key := stp_way cp ht ce rp (wy : Rat) (by
    refine ⟨fun z => ?_, fun z => ?_, ?_⟩
    · have := num_pos'.mpr z
      rw [hwy, if_pos (.inl this)]; rfl
    · have : (stp c t).num < 0 := (num_lt _).mpr z
      rw [hwy, if_neg (by omega)]; rfl
    · rcases wy2 with h | h <;> rw [h]
      · left; rfl
      · right; rfl)
  have swr : Sz 24 ((wy : Rat) * r) := by
    rcases wy2 with h | h <;> rw [h]
    · simpa using w.sr
    · have : ((-1 : Int) : Rat) * r = -r := by grind
      rw [this]
      exact w.sr.neg
  have fw := fr_way r wy2
  have f4 := fun h => ha (stp c t) ((wy : Rat) * r) _ 24 h sb swr (by omega)
  have st' := sb.add swr
  have f5 := fun h => hz (stp c t + (wy : Rat) * r) h
  rw [key] at f5
  have mr : mulOk wy r.num = true := mulOk_of (B := 1) (C := 24) (by rcases wy2 with h | h <;> rw [h] <;> exact bts (by decide)) w.sr.1 (by decide)
  -- the urn
  have lm1 : m1 < h.length := (List.getElem?_eq_some_iff.mp e1).1
  have lm2 : m2 < h.length := (List.getElem?_eq_some_iff.mp e2).1
  have ua2 : UAt n N (h.set m1 (.lst ((acc ++ [e] ++ [nxt c r e]).map fr))) := by
    obtain ⟨xs, q, u⟩ := ua
    exact ⟨xs, by rw [List.getElem?_set_ne h1n]; exact q, u⟩
  obtain ⟨v, h3, g1, g2, g3, u3⟩ := hn n N 21 _ ua2 (by omega) (by decide) (by decide)
  have g4 := fun h => hw (v - 10) 10 4 h (by decide) (bts (by decide)) (by decide)
  have sq : Sz 4 (Rat.divInt (v - 10) 10) := sz_divInt (by decide) (by unfold Bt; omega) (bts (by decide))
  have qb : ab (Rat.divInt (v - 10) 10 * r) ≤ r := by
    have p1 : Rat.divInt (v - 10) 10 ≤ 1 := by
      rw [Rat.divInt_eq_div, ← Rat.not_lt]
      intro z
      have := (Rat.lt_div_iff (show (0:Rat) < ((10 : Int) : Rat) by decide)).mp z
      have : ((10 : Int) : Rat) < ((v - 10 : Int) : Rat) := by simpa using this
      have := Rat.intCast_lt_intCast.mp this
      omega
    have p2 : -1 ≤ Rat.divInt (v - 10) 10 := by
      rw [Rat.divInt_eq_div, ← Rat.not_lt]
      intro z
      have := (Rat.div_lt_iff (show (0:Rat) < ((10 : Int) : Rat) by decide)).mp z
      have : ((v - 10 : Int) : Rat) < ((-10 : Int) : Rat) := by simp at this ⊢; grind
      have := Rat.intCast_lt_intCast.mp this
      omega
    have a1 : Rat.divInt (v - 10) 10 * r ≤ 1 * r := Rat.mul_le_mul_of_nonneg_right p1 rp
    have a2 : -1 * r ≤ Rat.divInt (v - 10) 10 * r := Rat.mul_le_mul_of_nonneg_right p2 rp
    exact ab_le (by grind) (by grind)
  generalize Rat.divInt (v - 10) 10 = q at g4 sq qb
  have f6 := fun h => hm q r 4 24 h sq w.sr (by decide)
  have sqr := sq.mul w.sr
  have f7 := fun h => ha (stp c x) (q * r) _ _ h sbx sqr (by omega)
  have sx' := sbx.add sqr
  have f8 := fun h => hz (stp c x + q * r) h
  have lx := stp_less cp hx ce qb
  have e1' : h3[m1]? = some (.lst ((acc ++ [e] ++ [nxt c r e]).map fr)) := by
    rw [u3.oth m1 h1n (by simpa using lm1), List.getElem?_set_self lm1]
  have e2' : h3[m2]? = some (.lst (zs.map fr)) := by
    rw [u3.oth m2 h2n (by simpa using lm2), List.getElem?_set_ne h12]
    exact e2
  have lm2' : m2 < h3.length := (List.getElem?_eq_some_iff.mp e2').1
  refine ⟨stp c t + wy * r, stp c x + q * r, some (fr (stp c t)), some (.int wy), some (fr q), h3.set m2 (.lst ((zs ++ [ab (stp c x + q * r)]).map fr)), ?_, ?_, ?_, ?_, st'.mono (by omega), sx'.mono (by omega), key, lx⟩
  · have a1 : atI (acc.map fr ++ [fr e]) (-1) = some (fr e) := atI_last
    have sl : acc.length + 1 < 16777216 := by omega
    have sl2 : zs.length < 16777216 := by omega
    have s1 : ex Δ gl (.ife (.call i (.cons (.var 1) (.cons (.idx (.var 6) (.neg (.int 1))) .nil))) (.cons .brk .nil) .nil) [some (.ref n), some (fr c), some (fr r), v3, some (.int side), some (fr t), some (.ref m1), some (fr x), some (.ref m2), v9, v10, v11, v12, v13, v14, v15] h = .ok (.nx [some (.ref n), some (fr c), some (fr r), v3, some (.int side), some (fr t), some (.ref m1), some (fr x), some (.ref m2), v9, v10, v11, v12, v13, v14, v15]) h := by
      refine ex_no ?_
      simp [ev, evs, ixD, listAt, e1, a1, f1, nl]
    refine (exs_nx s1).trans ?_
    refine (exs_nx (ex_asg (d := fr (stp c t)) (h1 := h) ?_)).trans ?_
    · simp [ev, evs, f2]
    simp only [List.set]
    refine (exs_nx (ex_no (h1 := h) ?_)).trans ?_
    · simp [ev, evs, fr, ixD, bop, mo, cmpD, ng]
    refine (exs_nx (ex_asg (d := .int wy) (h1 := h) ?_)).trans ?_
    · rw [hwy]
      by_cases k1 : 0 < (stp c t).num
      · simp [ev, evs, fr, ixD, cmpD, k1]
      · by_cases k2 : (stp c t).num = 0
        · by_cases k3 : 0 < side
          · simp [ev, evs, fr, ixD, cmpD, eqD, k2, k3]
          · simp [ev, evs, fr, ixD, cmpD, eqD, k2, k3]
        · simp [ev, evs, fr, ixD, cmpD, eqD, k1, k2]
    simp only [List.set]
    refine (exs_nx (ex_asg (d := fr (stp c t + wy * r)) (h1 := h) ?_)).trans ?_
    · simp only [ev, evs, List.getElem?_cons_zero, List.getElem?_cons_succ, R.bind_ok]
      have z : (ixD (fr r) (.int 0) h) = .ok (.int r.num) h := by simp [fr, ixD]
      have z2 : (ixD (fr r) (.int 1) h) = .ok (.int r.den) h := by simp [fr, ixD]
      simp only [z, z2, R.bind_ok, bop, mr, if_true]
      have lk : lineOk [D.int (wy * r.num), D.int (r.den : Int)].length = true := by simp [lineOk, sizeLine]
      simp only [lk, if_true, R.bind_ok, fw, f4]
    simp only [List.set]
    refine (exs_nx (ex_exp (d := .non) (h1 := h.set m1 (.lst ((acc ++ [e] ++ [nxt c r e]).map fr))) ?_)).trans ?_
    · have q := ev_app (Δ := Δ) (gl := gl) (l := .var 6) (a := .call l (.cons (.var 5) .nil)) (ρ := [some (.ref n), some (fr c), some (fr r), v3, some (.int side), some (fr (stp c t + wy * r)), some (.ref m1), some (fr x), some (.ref m2), v9, some (fr (stp c t)), some (.int wy), v12, v13, v14, v15]) (h := h) (y := fr (nxt c r e)) (by simp [ev]) e1 (by simp [ev, evs, f5]) (by simp [sizeLine]; omega)
      rw [q, List.map_append (l₁ := acc ++ [e])]
      rfl
    refine (exs_nx (ex_asg (d := .int (0 - side)) (h1 := h.set m1 (.lst ((acc ++ [e] ++ [nxt c r e]).map fr))) ?_)).trans ?_
    · simp [ev, bop]
    simp only [List.set]
    refine (exs_nx (ex_asg (d := fr q) (h1 := h3) ?_)).trans ?_
    · simp only [ev, evs, List.getElem?_cons_zero, List.getElem?_cons_succ, R.bind_ok, g1, bop, g4]
    simp only [List.set]
    refine (exs_nx (ex_asg (d := fr (stp c x + q * r)) (h1 := h3) ?_)).trans ?_
    · simp only [ev, evs, List.getElem?_cons_zero, List.getElem?_cons_succ, R.bind_ok, f3, f6, f7]
    simp only [List.set]
    refine (exs_nx (ex_exp (d := .non) (h1 := h3.set m2 (.lst ((zs ++ [ab (stp c x + q * r)]).map fr))) ?_)).trans ?_
    · have q := ev_app (Δ := Δ) (gl := gl) (l := .var 8) (a := .call l (.cons (.var 7) .nil)) (ρ := [some (.ref n), some (fr c), some (fr r), v3, some (.int (0 - side)), some (fr (stp c t + wy * r)), some (.ref m1), some (fr (stp c x + q * r)), some (.ref m2), v9, some (fr (stp c t)), some (.int wy), some (fr q), v13, v14, v15]) (h := h3) (y := fr (ab (stp c x + q * r))) (by simp [ev]) e2' (by simp [ev, evs, f8]) (by simp [sizeLine]; omega)
      rw [q, List.map_append]
      rfl
    rw [exs]
  · obtain ⟨xs, q, u⟩ := u3.at_
    exact ⟨xs, by rw [List.getElem?_set_ne h2n]; exact q, u⟩
  · rw [List.getElem?_set_ne (Ne.symm h12)]
    exact e1'
  · rw [List.getElem?_set_self lm2']
end
end HS

/-! How large the worst errors grow: a sharper bound. -/
namespace HS
open PySem L2
theorem mne {a b : Rat} (ha : a ≠ 0) (hb : b ≠ 0) : a * b ≠ 0 := by
  intro z
  rcases Rat.mul_eq_zero.mp z with z | z
  · exact ha z
  · exact hb z
theorem rep_q (N D M : Rat) (hD : D ≠ 0) (hM : M ≠ 0) (e : M = N + D) : (N / M) * (N / M) / (2 * (1 - N / M)) = N * N / (2 * M * D) := by
  have h1 : 2 * (1 - N / M) = 2 * D / M := by grind
  have h2 : 2 * D / M ≠ 0 := by rw [Rat.div_def]; exact mne (mne (by decide) hD) (by grind)
  have h3 : 2 * M * D ≠ 0 := mne (mne (by decide) hM) hD
  rw [h1]
  grind
theorem rep_eq (N D M s t K : Rat) (hD : D ≠ 0) (hs : s ≠ 0) (hM : M ≠ 0) (e : M = N + D) (hK : M = s * K) :
    (N / M) * (N / M) / (2 * (1 - N / M)) + t / s = (N * N + t * (2 * K * D)) / (2 * M * D) := by
  have h3 : 2 * M * D ≠ 0 := mne (mne (by decide) hM) hD
  have h4 : t / s = t * (2 * K * D) / (2 * M * D) := by grind
  rw [rep_q N D M hD hM e, h4]
  grind
theorem rep_eq0 (N D M s t : Rat) (hD : D ≠ 0) (hs : s ≠ 0) (hM : M ≠ 0) (e : M = N + D) :
    (N / M) * (N / M) / (2 * (1 - N / M)) + t / s = (N * N * s + t * (2 * M * D)) / (2 * M * D * s) := by
  have h3 : 2 * M * D ≠ 0 := mne (mne (by decide) hM) hD
  have h5 : 2 * M * D * s ≠ 0 := mne h3 hs
  rw [rep_q N D M hD hM e]
  generalize 2 * M * D = X at *
  grind
theorem bnd {N D t s K B : Nat} (hM : N + D < 2 ^ B) (ht : t ≤ s) (hK : N + D = s * K) : N * N + t * (2 * K * D) < 2 ^ (2 * B + 1) ∧ 2 * (N + D) * D < 2 ^ (2 * B + 1) := by
  have e : (2 : Nat) ^ (2 * B + 1) = 2 * (2 ^ B * 2 ^ B) := by rw [Nat.pow_succ, Nat.two_mul, Nat.pow_add]; omega
  have h1 : (N + D) * (N + D) < 2 ^ B * 2 ^ B := Nat.mul_self_lt_mul_self hM
  have h2 : t * K ≤ N + D := by rw [hK]; exact Nat.mul_le_mul_right _ ht
  have h3 : t * (2 * K * D) = 2 * (t * K * D) := by grind
  have h4 : t * K * D ≤ (N + D) * D := Nat.mul_le_mul_right _ h2
  have h5 : (N + D) * (N + D) = N * N + 2 * (N * D) + D * D := by grind
  have h6 : (N + D) * D = N * D + D * D := by grind
  have h7 : 2 * (N + D) * D = 2 * ((N + D) * D) := by grind
  rw [e, h3, h7]
  constructor
  · omega
  · omega
theorem bnd0 {N D t s B C : Nat} (hM : N + D < 2 ^ B) (ht : t ≤ s) (hs : s < 2 ^ C) : N * N * s + t * (2 * (N + D) * D) < 2 ^ (2 * B + 1 + C) ∧ 2 * (N + D) * D * s < 2 ^ (2 * B + 1 + C) := by
  have hs0 : 0 < 2 ^ C := Nat.pos_of_ne_zero (by simp)
  have e : (2 : Nat) ^ (2 * B + 1 + C) = 2 * (2 ^ B * 2 ^ B) * 2 ^ C := by rw [Nat.pow_add, Nat.pow_succ, Nat.two_mul, Nat.pow_add]; grind
  have h1 : (N + D) * (N + D) < 2 ^ B * 2 ^ B := Nat.mul_self_lt_mul_self hM
  have h5 : (N + D) * (N + D) = N * N + 2 * (N * D) + D * D := by grind
  have h6 : (N + D) * D = N * D + D * D := by grind
  have h7 : 2 * (N + D) * D = 2 * ((N + D) * D) := by grind
  have a1 : t * (2 * (N + D) * D) ≤ s * (2 * (N + D) * D) := Nat.mul_le_mul_right _ ht
  have k1 : (N * N + 2 * (N + D) * D) * s ≤ (N * N + 2 * (N + D) * D) * 2 ^ C := Nat.mul_le_mul_left _ (Nat.le_of_lt hs)
  have k2 : (N * N + 2 * (N + D) * D) * 2 ^ C < (2 * (2 ^ B * 2 ^ B)) * 2 ^ C := Nat.mul_lt_mul_of_pos_right (by rw [h7]; omega) hs0
  have k3 : (N * N + 2 * (N + D) * D) * s = N * N * s + s * (2 * (N + D) * D) := by grind
  have k4 : 2 * (N + D) * D * s = s * (2 * (N + D) * D) := by grind
  rw [e, k4]
  constructor <;> omega
def ic (n : Nat) : Rat := ((n : Int) : Rat)
theorem ic_mul (a b : Nat) : ic (a * b) = ic a * ic b := by unfold ic; rw [Int.natCast_mul, Rat.intCast_mul]
theorem ic_add (a b : Nat) : ic (a + b) = ic a + ic b := by unfold ic; rw [Int.natCast_add, Rat.intCast_add]
theorem ic_ne {a : Nat} (h : 0 < a) : ic a ≠ 0 := fun z => by
  have := Rat.intCast_eq_zero_iff.mp z
  omega
theorem ic_lt {a b : Nat} (hb : 0 < b) (h : ic a / ic b < 1) : a < b := by
  have p : (0 : Rat) < ic b := Rat.intCast_pos.mpr (by omega)
  rw [Rat.div_lt_iff p, Rat.one_mul] at h
  have := Rat.intCast_lt_intCast.mp h
  omega
theorem ic2 : ic 2 = 2 := rfl
/-- a fraction whose denominator is a multiple of s, both below two to the B -/
def Rp (s B : Nat) (y : Rat) : Prop := ∃ N M K : Nat, 0 < M ∧ M = s * K ∧ N < 2 ^ B ∧ M < 2 ^ B ∧ y = ic N / ic M
theorem Rp.mono {s B C : Nat} {y : Rat} (h : Rp s B y) (l : B ≤ C) : Rp s C y := by
  obtain ⟨N, M, K, a, b, c, d, e⟩ := h
  have := Nat.pow_le_pow_right (show 0 < 2 by decide) l
  exact ⟨N, M, K, a, b, by omega, by omega, e⟩
theorem Rp.step {s t B : Nat} {y : Rat} (h : Rp s B y) (hs : 0 < s) (ht : t ≤ s) (hy : y < 1) : Rp s (2 * B + 1) (y * y / (2 * (1 - y)) + ic t / ic s) := by
  obtain ⟨N, M, K, hM, hK, hN, hMB, rfl⟩ := h
  have hNM := ic_lt hM hy
  obtain ⟨D, hD⟩ : ∃ D, M = N + D := ⟨M - N, by omega⟩
  have hD0 : 0 < D := by omega
  have b := bnd (N := N) (D := D) (t := t) (s := s) (K := K) (B := B) (by omega) ht (by omega)
  refine ⟨N * N + t * (2 * K * D), 2 * M * D, 2 * K * D, Nat.mul_pos (Nat.mul_pos (by decide) hM) hD0, by rw [hK]; grind, b.1, by rw [hD]; exact b.2, ?_⟩
  have e := rep_eq (ic N) (ic D) (ic M) (ic s) (ic t) (ic K) (ic_ne hD0) (ic_ne hs) (ic_ne hM) (by rw [hD, ic_add]) (by rw [hK, ic_mul])
  rw [e]
  simp only [ic_add, ic_mul, ic2]
theorem Rp.start {s t N M B C : Nat} (hM : 0 < M) (hMB : M < 2 ^ B) (hs : 0 < s) (hsC : s < 2 ^ C) (ht : t ≤ s) (hy : ic N / ic M < 1) : Rp s (2 * B + 1 + C) (ic N / ic M * (ic N / ic M) / (2 * (1 - ic N / ic M)) + ic t / ic s) := by
  have hNM := ic_lt hM hy
  obtain ⟨D, hD⟩ : ∃ D, M = N + D := ⟨M - N, by omega⟩
  have hD0 : 0 < D := by omega
  have b := bnd0 (N := N) (D := D) (t := t) (s := s) (B := B) (C := C) (by omega) ht hsC
  refine ⟨N * N * s + t * (2 * M * D), 2 * M * D * s, 2 * M * D, Nat.mul_pos (Nat.mul_pos (Nat.mul_pos (by decide) hM) hD0) hs, Nat.mul_comm _ _, by rw [hD]; exact b.1, by rw [hD]; exact b.2, ?_⟩
  have e := rep_eq0 (ic N) (ic D) (ic M) (ic s) (ic t) (ic_ne hD0) (ic_ne hs) (ic_ne hM) (by rw [hD, ic_add])
  rw [e]
  simp only [ic_add, ic_mul, ic2]
theorem nxt_y (c r e : Rat) : c * nxt c r e = (c * e) * (c * e) / (2 * (1 - c * e)) + c * r := by
  unfold nxt prt
  generalize hX : 2 * (1 - c * e) = X
  rw [Rat.div_def, Rat.div_def]
  grind
theorem errs_rp {c r : Rat} {s t C : Nat} (hs : 0 < s) (ht : t ≤ s) (hr : c * r = ic t / ic s) : ∀ (k B : Nat) (e : Rat), Rp s B (c * e) → (B + 1) * 2 ^ k ≤ C + 1 → ∀ x ∈ errs c r k e, Rp s C (c * x)
  | 0, B, e, he, hB, x, hx => by
    simp only [errs, List.mem_singleton] at hx
    subst hx
    exact he.mono (by omega)
  | k + 1, B, e, he, hB, x, hx => by
    have e2 : (2 * B + 1 + 1) * 2 ^ k = (B + 1) * 2 ^ (k + 1) := by rw [Nat.pow_succ]; grind
    have e3 : B + 1 ≤ (B + 1) * 2 ^ (k + 1) := Nat.le_mul_of_pos_right _ (Nat.pos_of_ne_zero (by simp))
    unfold errs at hx
    split at hx
    · rw [List.mem_singleton] at hx
      subst hx
      exact he.mono (by omega)
    · rename_i nl
      rcases List.mem_cons.mp hx with rfl | hx
      · exact he.mono (by omega)
      · refine errs_rp hs ht hr k (2 * B + 1) _ ?_ (by omega) x hx
        rw [nxt_y, hr]
        exact he.step hs ht (by grind)
theorem frac_ic {q : Rat} {B : Nat} (h : Sz B q) (p : 0 ≤ q) : ∃ N M : Nat, 0 < M ∧ N < 2 ^ B ∧ M < 2 ^ B ∧ q = ic N / ic M := by
  have n0 := Rat.num_nonneg.mpr p
  have a := h.1
  have b := h.2
  unfold Bt at a b
  refine ⟨q.num.toNat, q.den, Nat.pos_of_ne_zero q.den_nz, by omega, by omega, ?_⟩
  have e : ic q.num.toNat = (q.num : Rat) := by unfold ic; rw [Int.toNat_of_nonneg n0]
  rw [e]
  exact cast_num q
/-- the worst errors of at most six steps are short enough to be told -/
theorem errs_short {c r e : Rat} (w : Wd c r) (se : Sz 16 e) (sy : Sz 12 (c * e)) (pe : 0 ≤ e.num) (k : Nat) (hk : k ≤ 6) : ∀ x ∈ errs c r k e, Sz 1475 x := by
  have cp : 0 < c := by rw [Rat.lt_iff]; simpa using w.cp
  have pe := Rat.num_nonneg.mp pe
  have py : 0 ≤ c * e := Rat.mul_nonneg (Rat.le_of_lt cp) pe
  have pr : 0 ≤ c * r := Rat.mul_nonneg (Rat.le_of_lt cp) (Rat.num_nonneg.mp w.rp)
  obtain ⟨N, M, hM, _, hMB, ey⟩ := frac_ic sy py
  obtain ⟨t, s, hs, _, hsB, er⟩ := frac_ic w.pr pr
  have ht : t ≤ s := Nat.le_of_lt (ic_lt hs (by rw [← er]; exact w.cr))
  intro x hx
  match k, hk, hx with
  | 0, _, hx =>
    simp only [errs, List.mem_singleton] at hx
    subst hx
    exact se.mono (by decide)
  | k + 1, hk, hx =>
    unfold errs at hx
    split at hx
    · rw [List.mem_singleton] at hx
      subst hx
      exact se.mono (by decide)
    · rename_i nl
      rcases List.mem_cons.mp hx with rfl | hx
      · exact se.mono (by decide)
      · have y1 : c * e < 1 := by grind
        have st : Rp s 45 (c * nxt c r e) := by
          rw [nxt_y, er, ey]
          exact Rp.start (B := 12) (C := 20) hM hMB hs hsB ht (by rw [← ey]; exact y1)
        have pw : 2 ^ k ≤ 2 ^ 5 := Nat.pow_le_pow_right (by decide) (by omega)
        obtain ⟨N2, M2, K2, a1, a2, a3, a4, a5⟩ := errs_rp (C := 1471) hs ht er k 45 _ st (by omega) x hx
        have sx : Sz 1471 (c * x) := by
          rw [a5]
          have := sz_divInt (a := (N2 : Int)) (b := (M2 : Int)) (B := 1471) (by omega) (by unfold Bt; omega) (by unfold Bt; omega)
          rw [Rat.divInt_eq_div] at this
          exact this
        have ex : x = (c * x) / c := by
          have := w.c0
          grind
        rw [ex]
        exact sx.div w.sc w.c0
theorem errs_szK {c r : Rat} (w : Wd c r) {C : Nat} : ∀ (k B : Nat) (e : Rat), Sz B e → (B + 31) * 2 ^ k ≤ C + 31 → ∀ x ∈ errs c r k e, Sz C x
  | 0, B, e, he, hB, x, hx => by
    simp [errs] at hx
    subst hx
    exact he.mono (by omega)
  | k + 1, B, e, he, hB, x, hx => by
    rw [errs] at hx
    rw [Nat.pow_succ] at hB
    have hB2 : (2 * B + 31 + 31) * 2 ^ k ≤ C + 31 := by
      have : (2 * B + 31 + 31) * 2 ^ k = (B + 31) * (2 ^ k * 2) := by rw [show 2 * B + 31 + 31 = (B + 31) * 2 by omega, Nat.mul_assoc, Nat.mul_comm 2]
      omega
    have p1 : 1 ≤ 2 ^ k := Nat.one_le_two_pow
    have hB3 : B ≤ C := by
      have : (B + 31) * 1 ≤ (B + 31) * (2 ^ k * 2) := Nat.mul_le_mul_left _ (by omega)
      omega
    split at hx
    · simp at hx; subst hx; exact he.mono hB3
    · rename_i hl
      rcases List.mem_cons.mp hx with rfl | hx
      · exact he.mono hB3
      · exact errs_szK w k (2 * B + 31) _ (sz_nxt w.sc w.sr he (lost_ne hl)) hB2 x hx
end HS

/-! k33: the law. -/
namespace HS
open PySem L2
theorem errs_cut (c r : Rat) : ∀ (k : Nat) (e : Rat), errs c r ((errs c r k e).length - 1) e = errs c r k e
  | 0, e => by simp [errs]
  | k + 1, e => by
    by_cases h : 1 ≤ c * e
    · simp [errs, h]
    · have ih := errs_cut c r k (nxt c r e)
      have ne := errs_ne c r k (nxt c r e)
      have : 0 < (errs c r k (nxt c r e)).length := List.length_pos_iff.mpr ne
      obtain ⟨m, hm⟩ : ∃ m, (errs c r k (nxt c r e)).length = m + 1 := ⟨_, (Nat.succ_pred_eq_of_pos this).symm⟩
      rw [hm] at ih
      simp only [errs, h, if_false, List.length_cons, hm, Nat.add_sub_cancel] at ih ⊢
      rw [ih]
/-- zs is nowhere above es -/
structure Dom (zs es : List Rat) : Prop where
  len : zs.length = es.length
  le : ∀ (i : Nat) (z e : Rat), zs[i]? = some z → es[i]? = some e → z ≤ e
  sz : ∀ z ∈ zs, Sz 3100 z
theorem Dom.snoc {zs es : List Rat} {z e : Rat} (d : Dom zs es) (h : z ≤ e) (s : Sz 3100 z) : Dom (zs ++ [z]) (es ++ [e]) := by
  refine ⟨by simp [d.1], fun i a b ha hb => ?_, fun y hy => by
    rcases List.mem_append.mp hy with hy | hy
    · exact d.sz y hy
    · rw [List.mem_singleton.mp hy]; exact s⟩
  rcases Nat.lt_trichotomy i zs.length with hi | hi | hi
  · rw [List.getElem?_append_left hi] at ha
    rw [List.getElem?_append_left (by rw [← d.1]; exact hi)] at hb
    exact d.2 i a b ha hb
  · subst hi
    rw [List.getElem?_append_right (Nat.le_refl _)] at ha
    rw [List.getElem?_append_right (by rw [d.1]; exact Nat.le_refl _)] at hb
    rw [d.1] at hb
    simp at ha hb
    subst ha hb
    exact h
  · rw [List.getElem?_eq_none (by simp; omega)] at ha
    cases ha
section
variable {Δ : Nat → Fn} {gl : Nat → D}
theorem loop33 {i j k l m o p : Nat} (hl : S_lost (Δ i)) (hst : S_stepped (Δ j)) (ha : S_op (· + ·) (Δ k)) (hz : S_size (Δ l)) (hw : S_with (Δ m)) (hn : S_nip (Δ o)) (hm : S_op (· * ·) (Δ p))
    {n m1 m2 : Nat} {c r : Rat} (w : Wd c r) (h1n : m1 ≠ n) (h2n : m2 ≠ n) (h12 : m1 ≠ m2) (v3 v13 v14 v15 : Option D) :
    ∀ (items : List D) (N B : Nat) (e t x : Rat) (side : Int) (acc zs : List Rat) (h : Hh) (v9 v10 v11 v12 : Option D), UAt n N h → N + items.length ≤ 900000 →
    h[m1]? = some (.lst ((acc ++ [e]).map fr)) → h[m2]? = some (.lst (zs.map fr)) → Dom zs (acc ++ [e]) → acc.length + items.length < 900 → Sz B t → Sz B x → (B + 36) * 2 ^ items.length ≤ 1536 → ab t = e → ab x ≤ e →
    ∃ side' t' x' y9 y10 y11 y12 zs' h', forL [] (fun d ρ h => asn Δ gl (.nm 9) d ρ h) (fun ρ h => exs Δ gl (L_law33_0 i j k l m o p) ρ h) items [some (.ref n), some (fr c), some (fr r), v3, some (.int side), some (fr t), some (.ref m1), some (fr x), some (.ref m2), v9, v10, v11, v12, v13, v14, v15] h
        = .ok (.nx [some (.ref n), some (fr c), some (fr r), v3, some (.int side'), some (fr t'), some (.ref m1), some (fr x'), some (.ref m2), y9, y10, y11, y12, v13, v14, v15]) h' ∧
      h'[m1]? = some (.lst ((acc ++ errs c r items.length e).map fr)) ∧ h'[m2]? = some (.lst (zs'.map fr)) ∧ Dom zs' (acc ++ errs c r items.length e)
  | [], N, B, e, t, x, side, acc, zs, h, v9, v10, v11, v12, ua, hN, e1, e2, dm, hlen, st, sx, hB, ht, hx => by
    refine ⟨side, t, x, v9, v10, v11, v12, zs, h, ?_, e1, e2, dm⟩
    simp [forL, gsOk_nil]
  | d :: items, N, B, e, t, x, side, acc, zs, h, v9, v10, v11, v12, ua, hN, e1, e2, dm, hlen, st, sx, hB, ht, hx => by
    simp only [List.length_cons] at hN hlen hB
    rw [Nat.pow_succ] at hB
    have p1 : 1 ≤ 2 ^ items.length := Nat.one_le_two_pow
    have hB3 : B ≤ 1500 := by
      have : (B + 36) * 1 ≤ (B + 36) * (2 ^ items.length * 2) := Nat.mul_le_mul_left _ (by omega)
      omega
    have hB2 : (2 * B + 36 + 36) * 2 ^ items.length ≤ 1536 := by
      have : (2 * B + 36 + 36) * 2 ^ items.length = (B + 36) * (2 ^ items.length * 2) := by rw [show 2 * B + 36 + 36 = (B + 36) * 2 by omega, Nat.mul_assoc, Nat.mul_comm 2]
      omega
    have se : Sz B e := by rw [← ht]; exact st.ab
    by_cases nl : 1 ≤ c * e
    · have f1 := hl c e 4 B h w.sc se (by omega)
      have a1 : atI (acc.map fr ++ [fr e]) (-1) = some (fr e) := atI_last
      refine ⟨side, t, x, some d, v10, v11, v12, zs, h, ?_, ?_, e2, ?_⟩
      · rw [forL, if_pos (gsOk_nil h)]
        simp [asn, List.set, L_law33_0, exs, ex, ev, evs, asBl, ixD, listAt, e1, a1, f1, nl]
      · simpa [errs, nl] using e1
      · simpa [errs, nl] using dm
    · have l1 : acc.length < 1000 := by omega
      have l2 : zs.length < 1000 := by rw [dm.1]; simp; omega
      obtain ⟨t', x', y10, y11, y12, h', g1, g2, g3, g4, g5, g6, g7, g8⟩ := turn33 (Δ := Δ) (gl := gl) hl hst ha hz hw hn hm w ua (by omega) h1n h2n h12 e1 e2 l1 l2 st sx hB3 ht hx nl v3 (some d) v10 v11 v12 v13 v14 v15 (side := side)
      obtain ⟨side'', t'', x'', z9, z10, z11, z12, zs'', h'', k1, k2, k3, k4⟩ := loop33 hl hst ha hz hw hn hm w h1n h2n h12 v3 v13 v14 v15 items (N + 1) (2 * B + 36) (nxt c r e) t' x' (0 - side) (acc ++ [e]) (zs ++ [ab x']) h' (some d) y10 y11 y12 g2 (by omega) g3 g4 (dm.snoc g8 (g6.ab.mono (by omega))) (by simp; omega) g5 g6 hB2 g7 g8
      refine ⟨side'', t'', x'', z9, z10, z11, z12, zs'', h'', ?_, ?_, k3, ?_⟩
      · rw [forL, if_pos (gsOk_nil h)]
        simp only [asn, R.calm_ok, R.bind_ok, List.set]
        rw [g1, R.bind_ok]
        exact k1
      · simpa [errs, nl] using k2
      · simpa [errs, nl] using k4
/-- a comprehension that finds nothing -/
theorem lc_none {gs : Gs} {el : D → Hh → R (Option D)} {h : Hh} (hg : gsOk gs h) : ∀ (ds acc : List D), (∀ d ∈ ds, el d h = .ok none h) → acc.length < sizeLine → lcL gs el ds acc h = alloc (.lst acc) h
  | [], acc, _, hl => by
    unfold lcL
    rw [if_pos ⟨hg, Nat.le_of_lt hl⟩]
  | d :: ds, acc, hd, hl => by
    unfold lcL
    rw [if_pos ⟨hg, hl⟩, hd d (by simp), R.bind_ok]
    exact lc_none hg ds acc (fun x hx => hd x (List.mem_cons_of_mem _ hx)) hl
theorem mem_up {n : Nat} {d : D} (h : d ∈ upFrom 0 n) : ∃ i : Nat, i < n ∧ d = .int (i : Int) := by
  unfold upFrom at h
  obtain ⟨i, hi, rfl⟩ := List.mem_map.mp h
  exact ⟨i, List.mem_range.mp hi, by simp⟩
theorem s_law_right33 {i j k l m o p q a b c0 w1 s1 : Nat} (hw : S_world (Δ i)) (hf : S_first (Δ j)) (hany : S_any (Δ k)) (hl : S_lost (Δ l)) (hd : S_div2 (Δ m)) (hst : S_stepped (Δ o)) (ha : S_op (· + ·) (Δ p)) (hz : S_size (Δ q)) (hwith : S_with (Δ a)) (hn : S_nip (Δ b)) (hm : S_op (· * ·) (Δ c0)) (hwst : S_worst (Δ w1)) (hs : S_op (· - ·) (Δ s1)) :
    S_right (run Δ gl (F_law33 i j k l m o p q a b c0 w1 s1)) := by
  intro n h ua
  obtain ⟨c, r, h1, w, e1, u1⟩ := hw n 0 h ua (by decide)
  obtain ⟨e0, h2, ⟨se0, _⟩, pe0, e2, u2⟩ := hf n 6 c h1 u1.at_ (by decide) w.sc w.cp
  obtain ⟨sd, sm, h3, e3, u3⟩ := hany n 12 [.int 1, .int (-1)] h2 u2.at_ (by decide) (by simp) (by decide) (by simp)
  obtain ⟨side, rfl, hside⟩ : ∃ s : Int, sd = .int s ∧ (s = 1 ∨ s = -1) := by
    simp only [List.mem_cons, List.not_mem_nil, or_false] at sm
    rcases sm with rfl | rfl
    · exact ⟨1, rfl, .inl rfl⟩
    · exact ⟨-1, rfl, .inr rfl⟩
  -- the first error
  have cpos : 0 < c := num_pos'.mp w.cp
  obtain ⟨e, se, pe, he⟩ : ∃ e, Sz 16 e ∧ 0 ≤ e.num ∧ ev Δ gl (.ife (.call l (.cons (.var 1) (.cons (.var 3) .nil))) (.call m (.cons (.tup (.cons (.int 1) (.cons (.int 2) .nil))) (.cons (.var 1) .nil))) (.var 3)) [some (.ref n), some (fr c), some (fr r), some (fr e0), some (.int side), none, none, none, none, none, none, none, none, none, none, none] h3 = .ok (fr e) h3 := by
    have f1 := hl c e0 4 16 h3 w.sc se0 (by decide)
    by_cases nl : 1 ≤ c * e0
    · have g := hd 1 2 c 2 4 h3 (by decide) (bts (by decide)) (bts (by decide)) w.sc (by decide) w.c0
      refine ⟨Rat.divInt 1 2 / c, ((sz_divInt (B := 2) (by decide) (bts (by decide)) (bts (by decide))).div w.sc w.c0).mono (by decide), ?_, ?_⟩
      · rw [Rat.num_nonneg, Rat.div_def]
        exact Rat.mul_nonneg (by decide) (Rat.le_of_lt (Rat.inv_pos.mpr cpos))
      · simp [ev, evs, f1, nl, lineOk, sizeLine, g]
    · exact ⟨e0, se0, pe0, by simp [ev, evs, f1, nl]⟩
  have en : 0 ≤ e := Rat.num_nonneg.mp pe
  have st : Sz 16 ((side : Rat) * e) ∧ ab ((side : Rat) * e) = e := by
    rcases hside with rfl | rfl
    · exact ⟨by simpa using se, by simpa using ab_of en⟩
    · have : ((-1 : Int) : Rat) * e = -e := by grind
      rw [this]
      exact ⟨se.neg, by rw [ab_neg]; exact ab_of en⟩
  have ms : mulOk side e.num = true := mulOk_of (B := 1) (C := 16) (by rcases hside with h | h <;> rw [h] <;> exact bts (by decide)) se.1 (by decide)
  have fw := fr_way e hside
  have nl3 := u3.at_.lt
  -- the loop
  obtain ⟨side', t', x', y9, y10, y11, y12, zs, h4, k1, k2, k3, dm⟩ := loop33 (Δ := Δ) (gl := gl) hl hst ha hz hwith hn hm w (n := n) (m1 := h3.length) (m2 := h3.length + 1) (by omega) (by omega) (by omega) (some (fr e)) none none none
    (upFrom 0 4) 13 16 e (side * e) (side * e) side [] [e] (h3 ++ [.lst [fr e], .lst [fr e]]) none none none none u3.at_.app (by decide) (by simp) (by simp) ⟨rfl, fun i z e' h1 h2 => by simp only [List.nil_append] at h2; rw [h1] at h2; cases h2; exact Rat.le_refl, fun z hz => by rw [List.mem_singleton.mp hz]; exact se.mono (by decide)⟩ (by decide) st.1 st.1 (by decide) st.2 (by rw [st.2]; exact Rat.le_refl)
  simp only [List.nil_append, show (upFrom 0 4).length = 4 from rfl] at k2 dm
  have cut := errs_cut c r 4 e
  have szE := errs_szK w (C := 721) 4 16 e se (by decide)
  have lenE := errs_len c r 4 e
  have neE := errs_ne c r 4 e
  have hcnt : ∃ cnt, (errs c r 4 e).length = cnt + 1 := by
    have : 0 < (errs c r 4 e).length := List.length_pos_iff.mpr neE
    exact ⟨_, (Nat.succ_pred_eq_of_pos this).symm⟩
  obtain ⟨cnt, hcnt⟩ := hcnt
  rw [hcnt, Nat.add_sub_cancel] at cut
  have wst := fun h => hwst c r e cnt h w se pe (by omega) (by rw [cut]; exact hcnt)
  rw [cut] at wst
  generalize errs c r 4 e = E at *
  have cI : ((E.length : Nat) : Int) - 1 = (cnt : Int) := by omega
  have rq : ∀ h, bltD .repr [.tup (E.map fr)] h = .ok (.str (shownD h (.tup (E.map fr)))) h := fun h => by
    refine repr_ok (w := 5 * 1455 + 3) (k := 2) (Rq.tup (Rqs.all (w1 := 1453) (fun x hx => ?_) ?_)) (by decide) (by decide)
    · obtain ⟨y, hy, rfl⟩ := List.mem_map.mp hx
      exact (Rq.fr (szE y hy) (by decide)).mono (by decide) (Nat.le_refl 1)
    · simp
      omega
  have key : exs Δ gl (B_law33 i j k l m o p q a b c0 w1 s1) [some (.ref n), none, none, none, none, none, none, none, none, none, none, none, none, none, none, none] h = .ok (.rt (.bl true)) (h4 ++ [.lst [], .lst []]) := by
    unfold B_law33
    refine (exs_nx (ρ1 := [some (.ref n), some (fr c), some (fr r), none, none, none, none, none, none, none, none, none, none, none, none, none]) (h1 := h1) ?_).trans ?_
    · simp [ex, ev, evs, asn, asns, R.calm, List.set, e1]
    refine (exs_nx (ρ1 := [some (.ref n), some (fr c), some (fr r), some (fr e0), some (.int side), none, none, none, none, none, none, none, none, none, none, none]) (h1 := h3) ?_).trans ?_
    · simp [ex, ev, evs, asn, asns, R.calm, List.set, e2, e3, lineOk, sizeLine]
    refine (exs_nx (ex_asg he)).trans ?_
    simp only [List.set]
    refine (exs_nx (ρ1 := [some (.ref n), some (fr c), some (fr r), some (fr e), some (.int side), some (fr (side * e)), some (.ref h3.length), none, none, none, none, none, none, none, none, none]) (h1 := h3 ++ [.lst [fr e]]) ?_).trans ?_
    · have z : ∀ h, (ixD (fr e) (.int 0) h) = .ok (.int e.num) h := fun h => by simp [fr, ixD]
      have z2 : ∀ h, (ixD (fr e) (.int 1) h) = .ok (.int e.den) h := fun h => by simp [fr, ixD]
      simp [ex, ev, evs, asn, asns, R.calm, List.set, z, z2, bop, ms, lineOk, sizeLine, alloc, fw]
    refine (exs_nx (ρ1 := [some (.ref n), some (fr c), some (fr r), some (fr e), some (.int side), some (fr (side * e)), some (.ref h3.length), some (fr (side * e)), some (.ref (h3.length + 1)), none, none, none, none, none, none, none]) (h1 := h3 ++ [.lst [fr e], .lst [fr e]]) ?_).trans ?_
    · simp [ex, ev, evs, asn, asns, R.calm, List.set, lineOk, sizeLine, alloc]
    refine (exs_nx (ex_for (p := upFrom 0 4) (gs := []) (h1 := h3 ++ [.lst [fr e], .lst [fr e]]) (evi_rng1 (k := 4) (by simp [evs, ev]) (by decide)) k1)).trans ?_
    refine (exs_nx (ex_asg (d := .int cnt) (h1 := h4) ?_)).trans ?_
    · simp [ev, evs, bltD, listAt, k2, bop, cI]
    simp only [List.set]
    refine (exs_nx (ex_asg (d := .tup (E.map fr)) (h1 := h4) ?_)).trans ?_
    · simp [ev, evs, wst]
    simp only [List.set]
    refine (exs_nx (ex_no (h1 := h4) (ev_same (ev_repr (d := .tup (E.map fr)) (h1 := h4) ?_ (rq h4)) (ev_repr (d := .tup (E.map fr)) (h1 := h4) ?_ (rq h4))))).trans ?_
    · simp [ev]
    · simp [ev, evs, bltD, listAt, k2]
    refine (exs_nx (ex_no (h1 := h4) (ev_same (ev_repr (d := .tup (E.map fr)) (h1 := h4) ?_ (rq h4)) (ev_repr (d := .tup (E.map fr)) (h1 := h4) ?_ (rq h4))))).trans ?_
    · simp [ev, evs, wst]
    · simp [ev]
    refine exs_rt ?_
    rw [ev, ev_lc (p := upFrom 0 E.length) (gs := []) (h1 := h4) (evi_rng1 (k := E.length) (by simp [evs, ev, bop]; omega) (small_nat (by omega)))]
    rw [lc_none (gsOk_nil h4) _ _ (fun d hd' => ?_) (by decide)]
    · have q1 : (h4 ++ [C.lst []] ++ [C.lst []])[h4.length]? = some (.lst (([] : List Int).map D.int)) := by simp
      have q2 : (h4 ++ [C.lst []] ++ [C.lst []])[(h4 ++ [C.lst []]).length]? = some (.lst []) := by simp
      have eq := eqD_nil q1 q2
      simp only [alloc, R.bind_ok, ev, evs, show lineOk ([] : List D).length = true from by decide, if_true, cmpD, eq]
      simp
    · obtain ⟨ix, hi, rfl⟩ := mem_up hd'
      have hz' : ix < zs.length := by rw [dm.1]; exact hi
      have g1 : E[ix]? = some E[ix] := List.getElem?_eq_getElem hi
      have g2 : zs[ix]? = some zs[ix] := List.getElem?_eq_getElem hz'
      have le := dm.2 ix _ _ g2 g1
      have a1 : atI (E.map fr) ((ix : Nat) : Int) = some (fr E[ix]) := by rw [atI_nat (by simpa using hi), List.getElem?_map, g1]; rfl
      have a2 : atI (zs.map fr) ((ix : Nat) : Int) = some (fr zs[ix]) := by rw [atI_nat (by simpa using hz'), List.getElem?_map, g2]; rfl
      have sz' := dm.sz _ (List.getElem_mem hz')
      have sE := szE _ (List.getElem_mem hi)
      have sub := hs E[ix] zs[ix] 721 3100 h4 sE sz' (by decide)
      have nn : ¬ (E[ix] - zs[ix]).num < 0 := by
        rw [num_lt]
        grind
      simp only [asn, wipeD, List.set, R.bind_ok, evt, ev, evs, List.getElem?_cons_zero, List.getElem?_cons_succ, ixD, listAt, k3, a1, a2, sub]
      simp [fr, cmpD, asBl, nn]
  have t : ∃ h9, tidy h (.bl true) (h4 ++ [.lst [], .lst []]) = .ok (.bl true) h9 := by
    rcases tidy_flat (h := h) (h' := h4 ++ [.lst [], .lst []]) (d := .bl true) rfl with q | q
    · exact ⟨_, q⟩
    · exact ⟨_, q⟩
  obtain ⟨h9, t⟩ := t
  refine ⟨h9, ?_⟩
  simp only [run, F_law33, List.length_cons, List.length_nil, if_true, List.map_cons, List.map_nil, List.replicate, List.cons_append, List.nil_append]
  rw [key]
  exact t
end
end HS

/-! k32: the home radius, the worst errors. -/
namespace HS
open PySem L2
def B_home_by (f_ratio_over g_TWO f_ratio_product g_THREE : Nat) : Ss :=
  (.cons (.ret (.call f_ratio_over (.cons (.glb g_TWO) (.cons (.call f_ratio_product (.cons (.glb g_THREE) (.cons (.var 0) .nil))) .nil)))) .nil)
def F_home_by (f_ratio_over g_TWO f_ratio_product g_THREE : Nat) : Df := ⟨1, 1, B_home_by f_ratio_over g_TWO f_ratio_product g_THREE⟩
def B_home_radius (f_check_change f_home_by : Nat) : Ss :=
  (.cons (.exp (.call f_check_change (.cons (.var 0) .nil))) 
  (.cons (.ret (.call f_home_by (.cons (.var 0) .nil))) .nil))
def F_home_radius (f_check_change f_home_by : Nat) : Df := ⟨1, 1, B_home_radius f_check_change f_home_by⟩
def L_law_due_0 (f__law_is_lost f__law_led : Nat) : Ss :=
    (.cons (.ife (.call f__law_is_lost (.cons (.var 0) (.cons (.idx (.var 4) (.neg (.int 1))) .nil))) (
      (.cons (.ret (.str "lost")) .nil)) (.nil)) 
    (.cons (.exp (.app (.var 4) (.call f__law_led (.cons (.var 0) (.cons (.var 1) (.cons (.idx (.var 4) (.neg (.int 1))) .nil)))))) .nil))
def B_law_due (f__law_is_lost f__law_led : Nat) : Ss :=
  (.cons (.asg (.nm 4) (.lst (.cons (.var 2) .nil))) 
  (.cons (.fr (.nm 5) (.rng (.cons (.var 3) .nil)) (L_law_due_0 f__law_is_lost f__law_led)) 
  (.cons (.ret (.blt .repr (.cons (.blt .tuple (.cons (.var 4) .nil)) .nil))) .nil)))
def F_law_due (f__law_is_lost f__law_led : Nat) : Df := ⟨4, 6, B_law_due f__law_is_lost f__law_led⟩
def B_law32 (f__law_world f__law_div f_home_radius f__law_first f__law_nip f__law_due f_worst_errors f__law_mul f__law_frac f__law_sub : Nat) : Ss :=
  (.cons (.asg (.tup (.cons (.nm 1) (.cons (.nm 2) .nil))) (.call f__law_world (.cons (.var 0) .nil))) 
  (.cons (.asg (.nm 3) (.call f__law_div (.cons (.tup (.cons (.int 2) (.cons (.int 3) .nil))) (.cons (.var 1) .nil)))) 
  (.cons (.ife (.cmp .NotEq (.blt .repr (.cons (.lst (.cons (.call f_home_radius (.cons (.var 1) .nil)) (.cons (.callk f_home_radius .nil [0] (.cons (.var 1) .nil)) .nil))) .nil)) (.blt .repr (.cons (.lst (.cons (.var 3) (.cons (.var 3) .nil))) .nil))) (
    (.cons (.ret (.bl false)) .nil)) (.nil)) 
  (.cons (.asg (.tup (.cons (.nm 4) (.cons (.nm 5) .nil))) (.tup (.cons (.call f__law_first (.cons (.var 0) (.cons (.var 1) .nil))) (.cons (.call f__law_nip (.cons (.var 0) (.cons (.int 7) .nil))) .nil)))) 
  (.cons (.asg (.nm 6) (.call f__law_due (.cons (.var 1) (.cons (.var 2) (.cons (.var 4) (.cons (.var 5) .nil)))))) 
  (.cons (.ife (.cmp .NotEq (.told (.rep 0 5 "lost" "odd") (.call f_worst_errors (.cons (.var 1) (.cons (.var 2) (.cons (.var 4) (.cons (.var 5) .nil)))))) (.var 6)) (
    (.cons (.ret (.bl false)) .nil)) (.nil)) 
  (.cons (.ife (.cmp .NotEq (.told (.rep 0 5 "lost" "odd") (.callk f_worst_errors .nil [3, 2, 1, 0] (.cons (.var 5) (.cons (.var 4) (.cons (.var 2) (.cons (.var 1) .nil)))))) (.var 6)) (
    (.cons (.ret (.bl false)) .nil)) (.nil)) 
  (.cons (.ife (.cmp .NotEq (.blt .repr (.cons (.call f_worst_errors (.cons (.var 1) (.cons (.tup (.cons (.int 0) (.cons (.int 1) .nil))) (.cons (.var 3) (.cons (.int 3) .nil))))) .nil)) (.blt .repr (.cons (.bin .mul (.tup (.cons (.var 3) .nil)) (.int 4)) .nil))) (
    (.cons (.ret (.bl false)) .nil)) (.nil)) 
  (.cons (.asg (.nm 7) (.call f__law_mul (.cons (.var 3) (.cons (.call f__law_frac (.cons (.bin .add (.int 1) (.call f__law_nip (.cons (.var 0) (.cons (.int 50) .nil)))) (.cons (.int 52) .nil))) .nil)))) 
  (.cons (.asg (.nm 8) (.call f_worst_errors (.cons (.var 1) (.cons (.tup (.cons (.int 0) (.cons (.int 1) .nil))) (.cons (.var 7) (.cons (.int 3) .nil)))))) 
  (.cons (.asg (.nm 9) (.lc (.idx (.call f__law_sub (.cons (.idx (.var 8) (.var 10)) (.cons (.idx (.var 8) (.bin .add (.var 10) (.int 1))) .nil))) (.int 0)) (.nm 10) (.rng (.cons (.int 3) .nil)) .no [10])) 
  (.cons (.ife (.or (.cmp .LtE (.blt .min (.cons (.var 9) .nil)) (.int 0)) (.cmp .LtE (.idx (.idx (.var 8) (.neg (.int 1))) (.int 0)) (.int 0))) (
    (.cons (.ret (.bl false)) .nil)) (.nil)) 
  (.cons (.asg (.nm 11) (.call f__law_mul (.cons (.var 3) (.cons (.call f__law_frac (.cons (.int 21) (.cons (.int 20) .nil))) .nil)))) 
  (.cons (.asg (.nm 8) (.call f_worst_errors (.cons (.var 1) (.cons (.tup (.cons (.int 0) (.cons (.int 1) .nil))) (.cons (.var 11) (.cons (.int 1) .nil)))))) 
  (.cons (.ret (.cmp .Gt (.idx (.call f__law_sub (.cons (.idx (.var 8) (.int 1)) (.cons (.idx (.var 8) (.int 0)) .nil))) (.int 0)) (.int 0))) .nil)))))))))))))))
def F_law32 (f__law_world f__law_div f_home_radius f__law_first f__law_nip f__law_due f_worst_errors f__law_mul f__law_frac f__law_sub : Nat) : Df := ⟨1, 12, B_law32 f__law_world f__law_div f_home_radius f__law_first f__law_nip f__law_due f_worst_errors f__law_mul f__law_frac f__law_sub⟩
/-! ### numbers -/
theorem nxt0 (c e : Rat) : nxt c 0 e = prt c e := by unfold nxt; grind
theorem nxt_down {c e : Rat} (hc : 0 < c) (he : 0 < e) (h : c * e < 2 / 3) : 0 < nxt c 0 e ∧ nxt c 0 e < e := by
  have h1 : c * e < 1 := by grind
  have m := prt_mul h1
  have p : 0 < 2 * (1 - c * e) := by grind
  have q : 0 < c * e := Rat.mul_pos hc he
  rw [nxt0]
  constructor
  · refine Rat.lt_of_mul_lt_mul_right (c := 2 * (1 - c * e)) ?_ (Rat.le_of_lt p)
    rw [m, Rat.zero_mul]
    exact Rat.mul_pos q he
  · refine Rat.lt_of_mul_lt_mul_right (c := 2 * (1 - c * e)) ?_ (Rat.le_of_lt p)
    rw [m, Rat.mul_comm e]
    exact Rat.mul_lt_mul_of_pos_right (by grind) he
theorem nxt_up {c e : Rat} (hc : 0 < c) (he : 0 < e) (h : c * e = 7 / 10) : e < nxt c 0 e := by
  have h1 : c * e < 1 := by grind
  have m := prt_mul h1
  rw [nxt0]
  have m2 : 6 * prt c e = 7 * e := by grind
  clear m
  grind
theorem nxt_near {c e : Rat} (h : c * e = 2 / 3) : nxt c 0 e = e := by
  have h1 : c * e < 1 := by grind
  have m := prt_mul h1
  rw [nxt0]
  grind
theorem wd0 {c r : Rat} (w : Wd c r) : Wd c 0 := ⟨w.sc, ⟨bts (by decide), bts (by decide)⟩, w.cp, by decide, by rw [Rat.mul_zero]; decide, by rw [Rat.mul_zero]; exact ⟨bts (by decide), bts (by decide)⟩⟩
/-! ### the defs -/
def nearR (c : Rat) : Rat := Rat.divInt 2 3 / c
theorem two_thirds : Rat.divInt 2 3 = 2 / 3 := by rw [Rat.divInt_eq_div]; rfl
theorem near_mul {c : Rat} (h : c ≠ 0) : c * nearR c = 2 / 3 := by
  unfold nearR
  rw [two_thirds]
  grind
theorem near_pos {c : Rat} (h : 0 < c) : 0 < nearR c := by
  unfold nearR
  rw [Rat.div_def]
  exact Rat.mul_pos (by decide) (Rat.inv_pos.mpr h)
theorem near_sz {c : Rat} (h : Sz 4 c) (h0 : c ≠ 0) : Sz 6 (nearR c) := (sz_divInt (B := 2) (a := 2) (b := 3) (by decide) (bts (by decide)) (bts (by decide))).div h h0
def S_home (f : Fn) : Prop := ∀ (c : Rat) h, Sz 4 c → 0 < c.num → f [fr c] h = .ok (fr (nearR c)) h
def dueS (c r e : Rat) (k : Nat) : Str := if (errs c r k e).length = k + 1 then shownD [] (.tup ((errs c r k e).map fr)) else "lost"
def S_due (f : Fn) : Prop := ∀ (c r e : Rat) (k : Nat) h, Wd c r → Sz 16 e → Sz 12 (c * e) → 0 ≤ e.num → k ≤ 6 → f [fr c, fr r, fr e, .int k] h = .ok (.str (dueS c r e k)) h
def S_worstX (f : Fn) : Prop := ∀ (c r e : Rat) (k : Nat) h, Wd c r → Sz 16 e → 0 ≤ e.num → k ≤ 6 → (errs c r k e).length ≠ k + 1 → ∃ l, f [fr c, fr r, fr e, .int k] h = .ex ⟨5, []⟩ (h ++ [l])
section
variable {Δ : Nat → Fn} {gl : Nat → D}
theorem s_home_by {i j k l : Nat} (ho : S_over (Δ i)) (h2 : gl j = fr 2) (hm : S_op (· * ·) (Δ k)) (h3 : gl l = fr 3) : S_home (run Δ gl (F_home_by i j k l)) := by
  intro c h sc cp
  have c0 : c ≠ 0 := fun z => by rw [z] at cp; exact absurd cp (by decide)
  have s3 : Sz 2 (3 : Rat) := ⟨bts (by decide), bts (by decide)⟩
  have e1 := hm 3 c 2 4 h s3 sc (by decide)
  have n0 : (3 : Rat) * c ≠ 0 := mne (by decide) c0
  have e2 := ho 2 (3 * c) 2 6 h sz2 (s3.mul sc) (by decide) n0
  have e3 : (2 : Rat) / (3 * c) = nearR c := by
    unfold nearR
    rw [two_thirds]
    grind
  rw [e3] at e2
  simp [run, F_home_by, B_home_by, exs, ex, ev, evs, h2, h3, e1, e2]
  exact tidy_self (fr_flat _)
theorem s_home_radius {i j : Nat} (hc : S_pos (Δ i)) (hh : S_home (Δ j)) : S_home (run Δ gl (F_home_radius i j)) := by
  intro c h sc cp
  have e1 := hc c h cp
  have e2 := hh c h sc cp
  simp [run, F_home_radius, B_home_radius, exs, ex, ev, evs, e1, e2]
  exact tidy_self (fr_flat _)
/-- a loop that grows the errors and is left where the slope is lost -/
theorem out_loop {tg : D → En → Hh → R En} {bd : En → Hh → R F} {c r : Rat} {out : Option D → F} (w : Wd c r) (h : Hh) (St : Option D → En) (htg : ∀ d z h, tg d (St z) h = .ok (St (some d)) h)
    (ho : ∀ z, (∃ d, out z = .rt d) ∨ ∃ e ρ, out z = .xc e ρ)
    (hb1 : ∀ (acc : List Rat) (e : Rat) (B : Nat) (z : Option D), Sz B e → B ≤ 2977 → 1 ≤ c * e → bd (St z) (h ++ [.lst ((acc ++ [e]).map fr)]) = .ok (out z) (h ++ [.lst ((acc ++ [e]).map fr)]))
    (hb2 : ∀ (acc : List Rat) (e : Rat) (B : Nat) (z : Option D), Sz B e → B ≤ 2977 → ¬ 1 ≤ c * e → acc.length < 1000 → bd (St z) (h ++ [.lst ((acc ++ [e]).map fr)]) = .ok (.nx (St z)) (h ++ [.lst (((acc ++ [e]) ++ [nxt c r e]).map fr)])) :
    ∀ (items : List D) (acc : List Rat) (B : Nat) (e : Rat) (z : Option D), Sz B e → (B + 31) * 2 ^ items.length ≤ 3008 → acc.length + items.length < 1000 → (errs c r items.length e).length ≠ items.length + 1 →
      ∃ z' l, forL [] tg bd items (St z) (h ++ [.lst ((acc ++ [e]).map fr)]) = .ok (out z') (h ++ [l])
  | [], acc, B, e, z, he, hB, hlen, hE => absurd (by simp [errs]) hE
  | d :: items, acc, B, e, z, he, hB, hlen, hE => by
    obtain ⟨hB2, hB3⟩ := pow_step hB
    unfold forL
    rw [if_pos (gsOk_nil _), htg]
    by_cases hlost : 1 ≤ c * e
    · refine ⟨some d, .lst ((acc ++ [e]).map fr), ?_⟩
      simp only [R.calm_ok, R.bind_ok, hb1 acc e B (some d) he hB3 hlost]
      rcases ho (some d) with ⟨y, q⟩ | ⟨y, ρ, q⟩
      · rw [q]
      · rw [q]
    · simp only [List.length_cons, errs, hlost, if_false, ne_eq, Nat.add_right_cancel_iff] at hE
      obtain ⟨z', l, e1⟩ := out_loop w h St htg ho hb1 hb2 items (acc ++ [e]) (2 * B + 31) (nxt c r e) (some d) (sz_nxt w.sc w.sr he (lost_ne hlost)) hB2 (by simp at hlen ⊢; omega) hE
      refine ⟨z', l, ?_⟩
      simp only [R.calm_ok, R.bind_ok, hb2 acc e B (some d) he hB3 hlost (by simp at hlen; omega)]
      exact e1
theorem s_worst_lost {i j k l m : Nat} (hs : S_start (Δ i)) (hg : S_num (Δ j)) (h6 : gl k = .int 6) (hl : S_lost (Δ l)) (hn : S_next (Δ m)) : S_worstX (run Δ gl (F_worst_errors i j k l m)) := by
  intro c r e0 n h w he he0 hk hE
  have lu : (upFrom 0 n).length = n := by simp [upFrom]
  have key0 : (16 + 31) * 2 ^ n ≤ 3008 := by
    have : 2 ^ n ≤ 2 ^ 6 := Nat.pow_le_pow_right (by decide) hk
    omega
  obtain ⟨z, lx, e1⟩ := out_loop (tg := fun d ρ h => asn Δ gl (.nm 5) d ρ h) (bd := fun ρ h => exs Δ gl (L_worst_errors_0 l m) ρ h) (out := fun z => .xc ⟨5, []⟩ [some (fr c), some (fr r), some (fr e0), some (.int n), some (.ref h.length), z])
    w h (fun z => [some (fr c), some (fr r), some (fr e0), some (.int n), some (.ref h.length), z]) (fun d z h => by simp [asn, List.set]) (fun z => .inr ⟨_, _, rfl⟩)
    (fun acc e B z he hB hlost => by
      have l1 := fun h => hl c e 4 B h w.sc he (by omega)
      have a1 : atI (acc.map fr ++ [fr e]) (-1) = some (fr e) := atI_last
      simp [L_worst_errors_0, exs, ex, ev, evs, asBl, ixD, listAt, get_end, a1, l1, hlost])
    (fun acc e B z he hB hlost hlen => by
      have l1 := fun h => hl c e 4 B h w.sc he (by omega)
      have n1 := fun h => hn c r e B h w.sc w.sr he hB (lost_ne hlost)
      have a1 : atI (acc.map fr ++ [fr e]) (-1) = some (fr e) := atI_last
      have sl : acc.length + 1 < sizeLine := Nat.lt_of_lt_of_le (show acc.length + 1 < 1001 by omega) (by decide)
      simp [L_worst_errors_0, exs, ex, ev, evs, asBl, ixD, listAt, get_end, a1, l1, hlost, n1, lstOk, app, sl])
    (upFrom 0 n) [] 16 e0 none he (by rw [lu]; exact key0) (by rw [lu]; simp; omega) (by rw [lu]; exact hE)
  have c1 := hs c r e0 h w.sc w.sr w.cp w.rp w.cr he0
  have c2 := hg n 0 6 h (by omega) (by omega)
  have e4 : small62 (n : Int) = true := small_nat (by omega)
  simp only [List.nil_append, List.map_cons, List.map_nil] at e1
  have key : exs Δ gl (B_worst_errors i j k l m) [some (fr c), some (fr r), some (fr e0), some (.int n), none, none] h = .ok (.xc ⟨5, []⟩ [some (fr c), some (fr r), some (fr e0), some (.int n), some (.ref h.length), z]) (h ++ [lx]) := by
    unfold B_worst_errors
    refine (exs_nx (ex_exp (d := .non) (h1 := h) ?_)).trans ?_
    · simp [ev, evs, c1]
    refine (exs_nx (ex_exp (d := .non) (h1 := h) ?_)).trans ?_
    · simp [ev, evs, h6, c2]
    refine (exs_nx (ex_asg (d := .ref h.length) (h1 := h ++ [.lst [fr e0]]) ?_)).trans ?_
    · simp [ev, evs, lineOk, sizeLine, alloc]
    simp only [List.set]
    rw [exs, ex_for (evi_rng1 (k := n) (by simp [evs, ev]) e4) e1]
    rfl
  refine ⟨lx, ?_⟩
  simp only [run, F_worst_errors, List.length_cons, List.length_nil, if_true, List.map_cons, List.map_nil, List.replicate, List.cons_append, List.nil_append]
  rw [key]
theorem errs_rq {c r e : Rat} {k : Nat} {rd : Nat → Option PyData} (w : Wd c r) (se : Sz 16 e) (sy : Sz 12 (c * e)) (pe : 0 ≤ e.num) (hk : k ≤ 6) : Rq rd (.tup ((errs c r k e).map fr)) (7 * 2965 + 3) 2 := by
  have sh := errs_short w se sy pe k hk
  have ln := errs_len c r k e
  refine Rq.tup (Rqs.all (w1 := 2963) (fun x hx => ?_) ?_)
  · obtain ⟨y, hy, rfl⟩ := List.mem_map.mp hx
    exact (Rq.fr (sh y hy) (by decide)).mono (by decide) (Nat.le_refl 1)
  · simp
    omega
theorem errs_repr {c r e : Rat} {k : Nat} (h : Hh) (w : Wd c r) (se : Sz 16 e) (sy : Sz 12 (c * e)) (pe : 0 ≤ e.num) (hk : k ≤ 6) : bltD .repr [.tup ((errs c r k e).map fr)] h = .ok (.str (shownD [] (.tup ((errs c r k e).map fr)))) h := by
  rw [repr_ok (errs_rq w se sy pe hk) (by decide) (by decide), shown_flat (h := h) (h' := []) (flat_frs _)]
theorem s_law_due {i j : Nat} (hl : S_lost (Δ i)) (hn : S_next (Δ j)) : S_due (run Δ gl (F_law_due i j)) := by
  intro c r e0 n h w he sy he0 hk
  have lu : (upFrom 0 n).length = n := by simp [upFrom]
  have key0 : (16 + 31) * 2 ^ n ≤ 3008 := by
    have : 2 ^ n ≤ 2 ^ 6 := Nat.pow_le_pow_right (by decide) hk
    omega
  have e4 : small62 (n : Int) = true := small_nat (by omega)
  have htg : ∀ (d : D) (z : Option D) (h1 : Hh), (fun d ρ h => asn Δ gl (.nm 5) d ρ h) d ((fun z => [some (fr c), some (fr r), some (fr e0), some (.int n), some (.ref h.length), z]) z) h1 = .ok ((fun z => [some (fr c), some (fr r), some (fr e0), some (.int n), some (.ref h.length), z]) (some d)) h1 := fun d z h => by simp [asn, List.set]
  have hb2 : ∀ (acc : List Rat) (e : Rat) (B : Nat) (z : Option D), Sz B e → B ≤ 2977 → ¬ 1 ≤ c * e → acc.length < 1000 → (fun ρ h => exs Δ gl (L_law_due_0 i j) ρ h) ((fun z => [some (fr c), some (fr r), some (fr e0), some (.int n), some (.ref h.length), z]) z) (h ++ [.lst ((acc ++ [e]).map fr)]) = .ok (.nx ((fun z => [some (fr c), some (fr r), some (fr e0), some (.int n), some (.ref h.length), z]) z)) (h ++ [.lst (((acc ++ [e]) ++ [nxt c r e]).map fr)]) :=
    fun acc e B z he hB hlost hlen => by
      have l1 := fun h => hl c e 4 B h w.sc he (by omega)
      have n1 := fun h => hn c r e B h w.sc w.sr he hB (lost_ne hlost)
      have a1 : atI (acc.map fr ++ [fr e]) (-1) = some (fr e) := atI_last
      have sl : acc.length + 1 < sizeLine := Nat.lt_of_lt_of_le (show acc.length + 1 < 1001 by omega) (by decide)
      simp [L_law_due_0, exs, ex, ev, evs, asBl, ixD, listAt, get_end, a1, l1, hlost, n1, lstOk, app, sl]
  have q0 : ∀ (ss : Ss) (rr : R F), exs Δ gl (.cons (.fr (.nm 5) (.rng (.cons (.var 3) .nil)) (L_law_due_0 i j)) ss) [some (fr c), some (fr r), some (fr e0), some (.int n), some (.ref h.length), none] (h ++ [.lst [fr e0]]) = rr →
      exs Δ gl (.cons (.asg (.nm 4) (.lst (.cons (.var 2) .nil))) (.cons (.fr (.nm 5) (.rng (.cons (.var 3) .nil)) (L_law_due_0 i j)) ss)) [some (fr c), some (fr r), some (fr e0), some (.int n), none, none] h = rr := fun ss rr q => by
    refine (exs_nx (ex_asg (d := .ref h.length) (h1 := h ++ [.lst [fr e0]]) ?_)).trans ?_
    · simp [ev, evs, lineOk, sizeLine, alloc]
    · simpa only [List.set] using q
  by_cases hE : (errs c r n e0).length = n + 1
  · obtain ⟨z, e1⟩ := wst_loop (tg := fun d ρ h => asn Δ gl (.nm 5) d ρ h) (bd := fun ρ h => exs Δ gl (L_law_due_0 i j) ρ h)
      w h (fun z => [some (fr c), some (fr r), some (fr e0), some (.int n), some (.ref h.length), z]) htg hb2
      (upFrom 0 n) [] 16 e0 none he (by rw [lu]; exact key0) (by rw [lu]; simp; omega) (by rw [lu]; exact hE)
    rw [lu] at e1
    simp only [List.nil_append, List.map_cons, List.map_nil] at e1
    have key : exs Δ gl (B_law_due i j) [some (fr c), some (fr r), some (fr e0), some (.int n), none, none] h = .ok (.rt (.str (dueS c r e0 n))) (h ++ [.lst ((errs c r n e0).map fr)]) := by
      unfold B_law_due
      refine q0 _ _ ?_
      refine (exs_nx (ex_for (evi_rng1 (k := n) (by simp [evs, ev]) e4) e1)).trans ?_
      refine exs_rt ?_
      refine ev_repr (d := .tup ((errs c r n e0).map fr)) (h1 := h ++ [.lst ((errs c r n e0).map fr)]) ?_ ?_
      · simp [ev, evs, bltD, listAt]
      · rw [errs_repr _ w he sy he0 hk, dueS, if_pos hE]
    simp only [run, F_law_due, List.length_cons, List.length_nil, if_true, List.map_cons, List.map_nil, List.replicate, List.cons_append, List.nil_append]
    rw [key]
    exact tidy_pre rfl
  · obtain ⟨z, lx, e1⟩ := out_loop (tg := fun d ρ h => asn Δ gl (.nm 5) d ρ h) (bd := fun ρ h => exs Δ gl (L_law_due_0 i j) ρ h) (out := fun _ => .rt (.str "lost"))
      w h (fun z => [some (fr c), some (fr r), some (fr e0), some (.int n), some (.ref h.length), z]) htg (fun z => .inl ⟨_, rfl⟩)
      (fun acc e B z he hB hlost => by
        have l1 := fun h => hl c e 4 B h w.sc he (by omega)
        have a1 : atI (acc.map fr ++ [fr e]) (-1) = some (fr e) := atI_last
        simp [L_law_due_0, exs, ex, ev, evs, asBl, ixD, listAt, get_end, a1, l1, hlost]) hb2
      (upFrom 0 n) [] 16 e0 none he (by rw [lu]; exact key0) (by rw [lu]; simp; omega) (by rw [lu]; exact hE)
    simp only [List.nil_append, List.map_cons, List.map_nil] at e1
    have key : exs Δ gl (B_law_due i j) [some (fr c), some (fr r), some (fr e0), some (.int n), none, none] h = .ok (.rt (.str (dueS c r e0 n))) (h ++ [lx]) := by
      unfold B_law_due
      refine q0 _ _ ?_
      rw [exs, ex_for (evi_rng1 (k := n) (by simp [evs, ev]) e4) e1, dueS, if_neg hE]
      rfl
    simp only [run, F_law_due, List.length_cons, List.length_nil, if_true, List.map_cons, List.map_nil, List.replicate, List.cons_append, List.nil_append]
    rw [key]
    exact tidy_pre rfl
theorem told_ok {x : E} {ρ : En} {h : Hh} {c r e : Rat} {k : Nat} (w : Wd c r) (se : Sz 16 e) (sy : Sz 12 (c * e)) (pe : 0 ≤ e.num) (hk : k ≤ 6)
    (e1 : (errs c r k e).length = k + 1 → ev Δ gl x ρ h = .ok (.tup ((errs c r k e).map fr)) h) (e2 : (errs c r k e).length ≠ k + 1 → ∃ l, ev Δ gl x ρ h = .ex ⟨5, []⟩ (h ++ [l])) :
    ∃ t, ev Δ gl (.told (.rep 0 5 "lost" "odd") x) ρ h = .ok (.str (dueS c r e k)) (h ++ t) := by
  by_cases hE : (errs c r k e).length = k + 1
  · refine ⟨[], ?_⟩
    rw [ev, e1 hE, toldR, errs_repr _ w se sy pe hk, dueS, if_pos hE, List.append_nil]
  · obtain ⟨l, q⟩ := e2 hE
    refine ⟨[l], ?_⟩
    rw [ev, q, dueS, if_neg hE]
    rfl
theorem ev_same2 {a b : E} {ρ : En} {h h1 h2 : Hh} {s : Str} (q : ev Δ gl a ρ h = .ok (.str s) h1) (r : ev Δ gl b ρ h1 = .ok (.str s) h2) : ev Δ gl (.cmp .NotEq a b) ρ h = .ok (.bl false) h2 := by
  simp [ev, q, r, cmpD, eqD]
end
end HS

/-! k03: the law's sack, its fractions. -/
namespace HS
open PySem L2
def L_law_sack_0 : Ss :=
    (.cons (.asg (.nm 2) (.bin .mod (.blt .int (.cons (.bin .add (.bin .add (.bin .mul (.var 2) (.int 48611)) (.blt .int (.cons (.var 4) .nil))) (.int 29)) .nil)) (.int 2147483587))) 
    (.cons (.asg (.nm 3) (.bin .mod (.blt .int (.cons (.bin .add (.bin .add (.bin .mul (.var 3) (.int 30011)) (.bin .mod (.blt .int (.cons (.var 4) .nil)) (.int 1999999973))) (.bin .fdiv (.var 2) (.int 16))) .nil)) (.int 1999999973))) .nil))
def B_law_sack : Ss :=
  (.cons (.asg (.tup (.cons (.nm 2) (.cons (.nm 3) .nil))) (.tup (.cons (.bin .add (.int 70001) (.bin .mul (.int 5003) (.var 1))) (.cons (.bin .add (.int 40009) (.bin .mul (.int 7) (.var 1))) .nil)))) 
  (.cons (.fr (.nm 4) (.pln (.slc (.var 0) .no (.so (.int 12)))) (L_law_sack_0)) 
  (.cons (.asg (.nm 5) (.ife (.cmp .Lt (.var 1) (.blt .len (.cons (.var 0) .nil))) (.blt .abs (.cons (.blt .int (.cons (.idx (.var 0) (.var 1)) .nil)) .nil)) (.int 0))) 
  (.cons (.ret (.lst (.cons (.ife (.cmp .GtE (.var 5) (.bin .pow (.int 10) (.int 18))) (.var 5) (.int 0)) (.cons (.bin .mod (.blt .int (.cons (.bin .add (.var 2) (.bin .mul (.bin .mod (.blt .int (.cons (.var 5) .nil)) (.int 2147483587)) (.int 6911))) .nil)) (.int 2147483587)) (.cons (.var 3) .nil))))) .nil))))
def F_law_sack : Df := ⟨2, 6, B_law_sack⟩
def B_law_pull : Ss :=
  (.cons (.ife (.cmp .Gt (.idx (.var 0) (.int 0)) (.int 0)) (
    (.cons (.asg (.tup (.cons (.sub (.var 0) (.int 0)) (.cons (.nm 2) .nil))) (.blt .divmod (.cons (.idx (.var 0) (.int 0)) (.cons (.var 1) .nil)))) 
    (.cons (.ret (.var 2)) .nil))) (.nil)) 
  (.cons (.asg (.sub (.var 0) (.int 2)) (.bin .mod (.blt .int (.cons (.bin .add (.bin .mul (.idx (.var 0) (.int 2)) (.int 69069)) (.int 7)) .nil)) (.int 1999999973))) 
  (.cons (.asg (.sub (.var 0) (.int 1)) (.bin .mod (.blt .int (.cons (.bin .add (.bin .add (.bin .mul (.idx (.var 0) (.int 1)) (.int 40503)) (.bin .fdiv (.idx (.var 0) (.int 2)) (.int 8))) (.int 1)) .nil)) (.int 2147483587))) 
  (.cons (.ret (.bin .mod (.blt .int (.cons (.bin .add (.bin .fdiv (.idx (.var 0) (.int 1)) (.int 64)) (.bin .fdiv (.idx (.var 0) (.int 2)) (.int 128))) .nil)) (.var 1))) .nil))))
def F_law_pull : Df := ⟨2, 3, B_law_pull⟩
def L_law_f_0 : Ss :=
    (.cons (.asg (.tup (.cons (.nm 2) (.cons (.nm 3) .nil))) (.tup (.cons (.var 3) (.cons (.bin .mod (.blt .int (.cons (.var 2) .nil)) (.var 3)) .nil)))) .nil)
def B_law_f : Ss :=
  (.cons (.ife (.cmp .Lt (.var 1) (.int 0)) (
    (.cons (.asg (.tup (.cons (.nm 0) (.cons (.nm 1) .nil))) (.tup (.cons (.neg (.var 0)) (.cons (.neg (.var 1)) .nil)))) .nil)) (.nil)) 
  (.cons (.asg (.tup (.cons (.nm 2) (.cons (.nm 3) .nil))) (.tup (.cons (.blt .abs (.cons (.var 0) .nil)) (.cons (.var 1) .nil)))) 
  (.cons (.whl (.cmp .Gt (.var 3) (.int 0)) (L_law_f_0)) 
  (.cons (.ret (.tup (.cons (.bin .fdiv (.var 0) (.var 2)) (.cons (.bin .fdiv (.var 1) (.var 2)) .nil)))) .nil))))
def F_law_f : Df := ⟨2, 4, B_law_f⟩
def B_law_small (f__law_f f__law_pull : Nat) : Ss :=
  (.cons (.ret (.call f__law_f (.cons (.bin .sub (.call f__law_pull (.cons (.var 0) (.cons (.int 9) .nil))) (.int 4)) (.cons (.bin .add (.int 1) (.call f__law_pull (.cons (.var 0) (.cons (.int 3) .nil)))) .nil)))) .nil)
def F_law_small (f__law_f f__law_pull : Nat) : Df := ⟨1, 1, B_law_small f__law_f f__law_pull⟩
def N0 : Nat := 1999999972
def S_pull (f : Fn) : Prop := ∀ (n : Nat) (m : Int) h, UAt n N0 h → 0 < m → m < 1000000 → ∃ v h', f [.ref n, .int m] h = .ok (.int v) h' ∧ 0 ≤ v ∧ v < m ∧ Up n N0 h h'
def S_sack (f : Fn) : Prop := ∀ (ns : List Int) (turn : Int) h, ns.length ≤ 63 → 0 ≤ turn → turn < 1000 → ∃ xs, Ur N0 xs ∧ f [.fz (ns.map D.int), .int turn] h = .ok (.ref h.length) (h ++ [.lst xs])
def S_small (f : Fn) : Prop := ∀ (n : Nat) h, UAt n N0 h → ∃ q h', f [.ref n] h = .ok (fr q) h' ∧ Sz 3 q ∧ Up n N0 h h'
theorem gcd_loop2 {c : En → Hh → R Bool} {bd : En → Hh → R F} {h : Hh} {St : Int → Int → En} (hc : ∀ (a b : Nat), c (St a b) h = .ok (decide (0 < b)) h)
    (hb : ∀ (a b : Nat), 0 < b → bd (St a b) h = .ok (.nx (St b ((a % b : Nat) : Int))) h) :
    ∀ (b a : Nat), ∃ n, whN c bd n (St a b) h = some (.ok (.nx (St (Nat.gcd a b : Nat) 0)) h) := by
  intro b
  induction b using Nat.strongRecOn with
  | _ b ih =>
    intro a
    by_cases hz : b = 0
    · subst hz
      refine ⟨1, ?_⟩
      have := hc a 0
      simp only [Int.natCast_zero] at this
      simp [whN, this]
    · have hp : 0 < b := by omega
      obtain ⟨n, e⟩ := ih (a % b) (Nat.mod_lt _ hp) b
      refine ⟨n + 1, ?_⟩
      rw [Nat.gcd_comm, ← Nat.gcd_rec, Nat.gcd_comm] at e
      simp only [whN, hc a b, hb a b hp, hp, decide_true]
      exact e
section
variable {Δ : Nat → Fn} {gl : Nat → D}
theorem run_rt {f : Df} {xs : List D} {h h' : Hh} {d : D} (hl : xs.length = f.np) (e : exs Δ gl f.body (xs.map some ++ List.replicate (f.ns - xs.length) none) h = .ok (.rt d) h') : run Δ gl f xs h = tidy h d h' := by
  unfold run
  rw [if_pos hl, e]
theorem f_tail (u l : Int) (B : Nat) (h : Hh) (hl : 0 < l) (hb : Bt B l) (hB : B ≤ 8999) :
    exs Δ gl (.cons (.asg (.tup (.cons (.nm 2) (.cons (.nm 3) .nil))) (.tup (.cons (.blt .abs (.cons (.var 0) .nil)) (.cons (.var 1) .nil)))) 
  (.cons (.whl (.cmp .Gt (.var 3) (.int 0)) (L_law_f_0)) 
  (.cons (.ret (.tup (.cons (.bin .fdiv (.var 0) (.var 2)) (.cons (.bin .fdiv (.var 1) (.var 2)) .nil)))) .nil))) [some (.int u), some (.int l), none, none] h = .ok (.rt (fr (Rat.divInt u l))) h := by
  have l0 : l ≠ 0 := by omega
  obtain ⟨k, rfl⟩ : ∃ k : Nat, l = k := ⟨l.toNat, by omega⟩
  have ab : ∀ x : Int, (if x < 0 then -x else x) = ((x.natAbs : Nat) : Int) := fun x => by split <;> omega
  obtain ⟨n, e⟩ := gcd_loop2 (h := h) (c := fun ρ h => (ev Δ gl (.cmp .Gt (.var 3) (.int 0)) ρ h).bind asBl) (bd := fun ρ h => exs Δ gl L_law_f_0 ρ h) (St := fun a b => [some (.int u), some (.int k), some (.int a), some (.int b)])
    (fun a b => by simp [ev, cmpD, asBl]) (fun a b hb => by
      have hb0 : b ≠ 0 := by omega
      have e : Int.fmod (a : Int) (b : Int) = ((a % b : Nat) : Int) := by rw [Int.fmod_eq_emod_of_nonneg _ (by omega)]; simp
      simp [L_law_f_0, exs, ex, ev, evs, asn, asns, bltD, bop, hb0, lineOk, sizeLine, R.calm, List.set, e]) k u.natAbs
  have w := whL_of e
  have g0 : ((Int.gcd u (k : Int) : Nat) : Int) ≠ 0 := by
    intro z
    exact l0 (Int.gcd_eq_zero_iff.mp (Int.ofNat.inj z)).2
  have hg := gcd_bt (a := u) hb l0
  have p1 := fun x => pylong_of (a := x) hg hB
  have eg : Nat.gcd u.natAbs k = Int.gcd u (k : Int) := rfl
  rw [eg] at w
  rw [fr_divInt l0, if_pos hl]
  refine (exs_nx (ρ1 := [some (.int u), some (.int k), some (.int u.natAbs), some (.int k)]) (h1 := h) ?_).trans ?_
  · simp [ex, ev, evs, asn, asns, bltD, lineOk, sizeLine, R.calm, List.set, ab]
  refine (exs_nx (ρ1 := [some (.int u), some (.int k), some (.int (Int.gcd u (k : Int) : Nat)), some (.int 0)]) (h1 := h) ?_).trans ?_
  · rw [ex]
    exact w
  refine exs_rt ?_
  have k0 : u = 0 → ¬ k = 0 := fun _ => by omega
  have k1 : ¬ k = 0 := by omega
  simp [ev, evs, bop, g0, k0, k1, p1, lineOk, sizeLine]
theorem s_law_f : S_with (run Δ gl F_law_f) := by
  intro a b B h h0 hb hB
  by_cases hp : 0 < b
  · have t := f_tail (Δ := Δ) (gl := gl) a b B h hp hb hB
    have key : exs Δ gl B_law_f [some (.int a), some (.int b), none, none] h = .ok (.rt (fr (Rat.divInt a b))) h := by
      unfold B_law_f
      refine (exs_nx (ex_no (h1 := h) ?_)).trans t
      have : ¬ b < 0 := by omega
      simp [ev, cmpD, this]
    exact (run_rt (f := F_law_f) rfl key).trans (tidy_self (fr_flat _))
  · have t := f_tail (Δ := Δ) (gl := gl) (-a) (-b) B h (by omega) hb.neg hB
    rw [Rat.neg_divInt_neg] at t
    have key : exs Δ gl B_law_f [some (.int a), some (.int b), none, none] h = .ok (.rt (fr (Rat.divInt a b))) h := by
      unfold B_law_f
      refine (exs_nx (ρ1 := [some (.int (-a)), some (.int (-b)), none, none]) (h1 := h) ?_).trans t
      have : b < 0 := by omega
      simp [ex, exs, ev, evs, cmpD, this, asBl, asn, asns, lineOk, sizeLine, R.calm, R.toF, List.set]
    exact (run_rt (f := F_law_f) rfl key).trans (tidy_self (fr_flat _))
set_option maxHeartbeats 2000000 in
theorem s_law_pull : S_pull (run Δ gl F_law_pull) := by
  intro n m h ⟨xs, e, a, b, c, ex0, ha, hb1, hb2, hc1, hc2⟩ hm1 hm2
  subst ex0
  have hN : (N0 : Int) = 1999999972 := rfl
  have hl : n < h.length := (List.getElem?_eq_some_iff.mp e).1
  have hm0 : m ≠ 0 := by omega
  by_cases h0 : 0 < a
  · have up : Up n N0 h (h.set n (.lst [.int (a / m), .int b, .int c])) := .set hl ⟨a / m, b, c, rfl, Int.ediv_nonneg ha (by omega), hb1, hb2, hc1, hc2⟩
    obtain ⟨h2, t1, t2⟩ := tidy_up (d := .int (a % m)) rfl ⟨_, e, a, b, c, rfl, ha, hb1, hb2, hc1, hc2⟩ (Nat.le_refl N0) up
    refine ⟨a % m, h2, ?_, Int.emod_nonneg _ hm0, Int.emod_lt_of_pos _ hm1, t2⟩
    have hm3 : m < 1073741824 := by omega
    simp [run, F_law_pull, B_law_pull, exs, ex, ev, evs, asn, asns, asBl, listAt, e, ixD, cmpD, h0, bltD, hm1, hm3, setI, ixN, List.set, R.calm, t1]
  · have hs : ∀ z, (h.set n z)[n]? = some z := fun z => List.getElem?_set_self hl
    have m1 : mulOk c 69069 = true := mulOk_of (bt31 hc1 (by omega)) (bt_of (B := 17) (by decide)) (by decide)
    generalize ec : Int.fmod (c * 69069 + 7) 1999999973 = c2
    have c1' : 0 ≤ c2 := by rw [← ec]; exact Int.fmod_nonneg_of_pos _ (by decide)
    have c2' : c2 < 1999999973 := by rw [← ec]; exact Int.fmod_lt_of_pos _ (by decide)
    have m2 : mulOk b 40503 = true := mulOk_of (bt31 hb1 hb2) (bt_of (B := 16) (by decide)) (by decide)
    generalize eb : Int.fmod (b * 40503 + Int.fdiv c2 8 + 1) 2147483587 = b2
    have b1' : 0 ≤ b2 := by rw [← eb]; exact Int.fmod_nonneg_of_pos _ (by decide)
    have b2' : b2 < 2147483587 := by rw [← eb]; exact Int.fmod_lt_of_pos _ (by decide)
    have p1 : ∀ x, Builtin.divisionGoesByPylong x 8 = false := fun x => pylong_of (B := 4) (bt_of (by decide)) (by decide)
    have p2 : ∀ x, Builtin.divisionGoesByPylong x 64 = false := fun x => pylong_of (B := 7) (bt_of (by decide)) (by decide)
    have p3 : ∀ x, Builtin.divisionGoesByPylong x 128 = false := fun x => pylong_of (B := 8) (bt_of (by decide)) (by decide)
    have up : Up n N0 h (h.set n (.lst [.int a, .int b2, .int c2])) := .set hl ⟨a, b2, c2, rfl, ha, b1', by omega, c1', by omega⟩
    obtain ⟨h2, t1, t2⟩ := tidy_up (d := .int (Int.fmod (Int.fdiv b2 64 + Int.fdiv c2 128) m)) rfl ⟨_, e, a, b, c, rfl, ha, hb1, hb2, hc1, hc2⟩ (Nat.le_refl N0) up
    refine ⟨Int.fmod (Int.fdiv b2 64 + Int.fdiv c2 128) m, h2, ?_, Int.fmod_nonneg_of_pos _ hm1, Int.fmod_lt_of_pos _ hm1, t2⟩
    simp [run, F_law_pull, B_law_pull, exs, ex, ev, evs, asn, asns, asBl, listAt, e, hs, ixD, cmpD, h0, bltD, bop, hm0, setI, ixN, List.set, R.calm, m1, ec, m2, p1, eb, p2, p3, t1]
theorem s_law_small {i j : Nat} (hw : S_with (Δ i)) (hp : S_pull (Δ j)) : S_small (run Δ gl (F_law_small i j)) := by
  intro n h ua
  obtain ⟨v, h1, e1, v0, v1, u1⟩ := hp n 9 h ua (by decide) (by decide)
  obtain ⟨w, h2, e2, w0, w1, u2⟩ := hp n 3 h1 u1.at_ (by decide) (by decide)
  have e3 := hw (v - 4) (1 + w) 3 h2 (by omega) (by unfold Bt; omega) (by decide)
  obtain ⟨h9, t1, t2⟩ := tidy_up (d := fr (Rat.divInt (v - 4) (1 + w))) (fr_flat _) ua (Nat.le_refl N0) (u1.trans u2)
  refine ⟨_, h9, ?_, sz_divInt (B := 3) (a := v - 4) (b := 1 + w) (by omega) (by unfold Bt; omega) (by unfold Bt; omega), t2⟩
  simp [run, F_law_small, B_law_small, exs, ex, ev, evs, bop, e1, e2, e3, t1]
theorem sack_loop {tg : D → En → Hh → R En} {bd : En → Hh → R F} {gs : Gs} (h : Hh) (hgs : gsOk gs h) (St : Int → Int → Option D → En) (htg : ∀ d s t z, tg d (St s t z) h = .ok (St s t (some d)) h)
    (hb : ∀ (s t i : Int), 0 ≤ s → s < 2147483648 → 0 ≤ t → t < 1999999973 → ∃ s' t', 0 ≤ s' ∧ s' < 2147483648 ∧ 0 ≤ t' ∧ t' < 1999999973 ∧ bd (St s t (some (.int i))) h = .ok (.nx (St s' t' (some (.int i)))) h) :
    ∀ (items : List Int) (s t : Int) (z : Option D), 0 ≤ s → s < 2147483648 → 0 ≤ t → t < 1999999973 → ∃ s' t' z', 0 ≤ s' ∧ s' < 2147483648 ∧ 0 ≤ t' ∧ t' < 1999999973 ∧ forL gs tg bd (items.map D.int) (St s t z) h = .ok (.nx (St s' t' z')) h
  | [], s, t, z, h0, h1, h2, h3 => ⟨s, t, z, h0, h1, h2, h3, by simp [forL, hgs]⟩
  | i :: items, s, t, z, h0, h1, h2, h3 => by
    obtain ⟨s1, t1, a, b, c, d, e⟩ := hb s t i h0 h1 h2 h3
    obtain ⟨s2, t2, z2, a2, b2, c2, d2, e2⟩ := sack_loop h hgs St htg hb items s1 t1 (some (.int i)) a b c d
    refine ⟨s2, t2, z2, a2, b2, c2, d2, ?_⟩
    rw [List.map_cons]
    unfold forL
    rw [if_pos hgs, htg, HS.R.calm_ok, HS.R.bind_ok, e, HS.R.bind_ok]
    exact e2
set_option maxHeartbeats 2000000 in
theorem s_law_sack : S_sack (run Δ gl F_law_sack) := by
  intro ns turn h hl h0 h1
  have m1 : mulOk 5003 turn = true := mulOk_of (B := 13) (C := 10) (bts (by decide)) (by unfold Bt; omega) (by decide)
  have m2 : mulOk 7 turn = true := mulOk_of (B := 3) (C := 10) (bts (by decide)) (by unfold Bt; omega) (by decide)
  obtain ⟨ms, ec, lc⟩ := cut_ints ns none (some 12)
  have p16 : ∀ x, Builtin.divisionGoesByPylong x 16 = false := fun x => pylong_of (B := 5) (bt_of (by decide)) (by decide)
  obtain ⟨s, t, z, s0, s1, t0, t1, e1⟩ := sack_loop (gs := [(h.length, ms.map D.int)]) (tg := fun d ρ h => asn Δ gl (.nm 4) d ρ h) (bd := fun ρ h => exs Δ gl L_law_sack_0 ρ h) (h ++ [.lst (ms.map D.int)])
    (fun p hp => by rw [List.mem_singleton.mp hp]; simp [listAt])
    (fun s t z => [some (.fz (ns.map D.int)), some (.int turn), some (.int s), some (.int t), z, none]) (fun d s t z => by simp [asn, List.set])
    (fun s t i h0 h1 h2 h3 => by
      have m3 : mulOk s 48611 = true := mulOk_of (bt31 h0 h1) (bts (B := 16) (by decide)) (by decide)
      have m4 : mulOk t 30011 = true := mulOk_of (bt31 h2 (by omega)) (bts (B := 16) (by decide)) (by decide)
      refine ⟨Int.fmod (s * 48611 + i + 29) 2147483587, Int.fmod (t * 30011 + Int.fmod i 1999999973 + Int.fdiv (Int.fmod (s * 48611 + i + 29) 2147483587) 16) 1999999973, Int.fmod_nonneg_of_pos _ (by decide), by
        have := Int.fmod_lt_of_pos (s * 48611 + i + 29) (show (0 : Int) < 2147483587 by decide)
        omega, Int.fmod_nonneg_of_pos _ (by decide), Int.fmod_lt_of_pos _ (by decide), ?_⟩
      simp [L_law_sack_0, exs, ex, ev, evs, asn, bltD, bop, R.calm, List.set, m3, m4, p16]) ms (70001 + 5003 * turn) (40009 + 7 * turn) none (by omega) (by omega) (by omega) (by omega)
  -- the script's own number
  obtain ⟨own, o0, eo⟩ : ∃ own : Int, 0 ≤ own ∧ ev Δ gl (.ife (.cmp .Lt (.var 1) (.blt .len (.cons (.var 0) .nil))) (.blt .abs (.cons (.blt .int (.cons (.idx (.var 0) (.var 1)) .nil)) .nil)) (.int 0)) [some (.fz (ns.map D.int)), some (.int turn), some (.int s), some (.int t), z, none] (h ++ [.lst (ms.map D.int)]) = .ok (.int own) (h ++ [.lst (ms.map D.int)]) := by
    have ml : ((ns.map D.int).length : Int) = ns.length := by simp
    by_cases hlap : turn < ns.length
    · obtain ⟨k, hk, ek⟩ := atI_some (xs := ns.map D.int) h0 (by rw [ml]; exact hlap)
      have hk' : k < ns.length := by simpa using hk
      have ek : atI (ns.map D.int) turn = some (.int ns[k]) := by
        rw [ek, List.getElem?_map, List.getElem?_eq_getElem hk']
        rfl
      refine ⟨if ns[k] < 0 then -ns[k] else ns[k], by split <;> omega, ?_⟩
      simp only [ev, evs, List.getElem?_cons_zero, List.getElem?_cons_succ, R.bind_ok, bltD, cmpD, ml, decide_eq_true hlap, ixD, ek]
    · refine ⟨0, by decide, ?_⟩
      simp only [ev, evs, List.getElem?_cons_zero, List.getElem?_cons_succ, R.bind_ok, bltD, cmpD, ml, decide_eq_false hlap]
  generalize ew : (if 1000000000000000000 ≤ own then own else 0) = w
  have w0 : 0 ≤ w := by rw [← ew]; split <;> omega
  have b1 := Int.fmod_nonneg_of_pos own (show (0 : Int) < 2147483587 by decide)
  have b2 := Int.fmod_lt_of_pos own (show (0 : Int) < 2147483587 by decide)
  have m5 : mulOk (Int.fmod own 2147483587) 6911 = true := mulOk_of (bt31 b1 (by omega)) (bts (B := 13) (by decide)) (by decide)
  generalize es : Int.fmod (s + Int.fmod own 2147483587 * 6911) 2147483587 = s9
  have c1 : 0 ≤ s9 := by rw [← es]; exact Int.fmod_nonneg_of_pos _ (by decide)
  have c2 : s9 < 2147483587 := by rw [← es]; exact Int.fmod_lt_of_pos _ (by decide)
  have ur : Ur N0 [.int w, .int s9, .int t] := ⟨w, s9, t, rfl, w0, c1, by omega, t0, by have : (N0 : Int) = 1999999972 := rfl; omega⟩
  refine ⟨_, ur, ?_⟩
  have key : exs Δ gl B_law_sack [some (.fz (ns.map D.int)), some (.int turn), none, none, none, none] h = .ok (.rt (.ref (h ++ [C.lst (ms.map D.int)]).length)) (h ++ [.lst (ms.map D.int)] ++ [.lst [.int w, .int s9, .int t]]) := by
    unfold B_law_sack
    refine (exs_nx (ρ1 := [some (.fz (ns.map D.int)), some (.int turn), some (.int (70001 + 5003 * turn)), some (.int (40009 + 7 * turn)), none, none]) (h1 := h) ?_).trans ?_
    · simp [ex, ev, evs, asn, asns, bop, m1, m2, R.calm, List.set, lineOk, sizeLine]
    refine (exs_nx (ex_for (p := ms.map D.int) (gs := [(h.length, ms.map D.int)]) (h1 := h ++ [.lst (ms.map D.int)]) ?_ e1)).trans ?_
    · simp only [evi, ev, evo, getI, List.getElem?_cons_zero, R.bind_ok, slD, ec, alloc, itemsD, listAt, get_end]
    refine (exs_nx (ex_asg eo)).trans ?_
    simp only [List.set]
    refine exs_rt ?_
    have p18 : (10 : Int) ^ (18 : Int).toNat = 1000000000000000000 := by decide
    by_cases ho : 1000000000000000000 ≤ own
    · rw [if_pos ho] at ew
      subst ew
      simp [ev, evs, bop, cmpD, bltD, ho, m5, es, alloc, lineOk, sizeLine]
    · rw [if_neg ho] at ew
      subst ew
      simp [ev, evs, bop, cmpD, bltD, ho, m5, es, alloc, lineOk, sizeLine]
  exact (run_rt (f := F_law_sack) rfl key).trans (tidy_new (b := h) (t := [.lst (ms.map D.int)]) (ur_flats ur))
end
end HS

/-! Forms of several unknowns: plain sums of terms, gathering, sorting. -/
namespace HS
open PySem L2
/-- a term: its powers, its number -/
abbrev Tm := List Int × Rat
def ftm (t : Tm) : D := .tup [.tup (t.1.map .int), fr t.2]
def ffm (F : List Tm) : D := .tup (F.map ftm)
def rz (x : Rat) (k : Int) : Rat := x ^ k.toNat
def mon : List Int → List Rat → Rat
  | k :: ks, x :: xs => rz x k * mon ks xs
  | _, _ => 1
def fs (p : List Rat) : List Tm → Rat
  | [] => 0
  | t :: F => t.2 * mon t.1 p + fs p F
def findR (rs : List Tm) (k : List Int) : Option Rat := (rs.find? fun t => decide (t.1 = k)).map (·.2)
def accR (rs : List Tm) (t : Tm) : List Tm := if (findR rs t.1).isSome then rs.map (fun r => if r.1 = t.1 then (r.1, r.2 + t.2) else r) else rs ++ [t]
def gat (ts : List Tm) : List Tm := ts.foldl accR []
def nz (t : Tm) : Bool := decide (t.2 ≠ 0)
/-- what both gatherings tell -/
def fw (ts : List Tm) : List Tm := ((sortK ((gat ts).map (·.1))).map fun k => (k, (findR (gat ts) k).getD 0)).filter nz

theorem findR_cons (r : Tm) (rs : List Tm) (k : List Int) : findR (r :: rs) k = if r.1 = k then some r.2 else findR rs k := by
  unfold findR
  rw [List.find?_cons]
  by_cases h : r.1 = k
  · simp [h]
  · simp [h]
theorem findR_none {rs : List Tm} {k : List Int} : findR rs k = none ↔ k ∉ rs.map (·.1) := by
  induction rs with
  | nil => simp [findR]
  | cons r rs ih =>
    rw [findR_cons, List.map_cons, List.mem_cons]
    by_cases h : r.1 = k
    · simp [h]
    · rw [if_neg h, ih]
      constructor
      · rintro a (b | b)
        · exact h b.symm
        · exact a b
      · exact fun a b => a (.inr b)
theorem findR_mem {rs : List Tm} (nd : (rs.map (·.1)).Nodup) {r : Tm} (m : r ∈ rs) : findR rs r.1 = some r.2 := by
  induction rs with
  | nil => cases m
  | cons x rs ih =>
    rw [List.map_cons, List.nodup_cons] at nd
    rw [findR_cons]
    rcases List.mem_cons.mp m with rfl | m
    · rw [if_pos rfl]
    · rw [if_neg (fun z => nd.1 (by rw [z]; exact List.mem_map.mpr ⟨r, m, rfl⟩)), ih nd.2 m]
theorem acc_keys (rs : List Tm) (t : Tm) : (accR rs t).map (·.1) = if (findR rs t.1).isSome then rs.map (·.1) else rs.map (·.1) ++ [t.1] := by
  unfold accR
  split
  · rw [List.map_map]
    refine List.map_congr_left fun r _ => ?_
    show (if r.1 = t.1 then (r.1, r.2 + t.2) else r).1 = r.1
    split <;> rfl
  · rw [List.map_append]; rfl
theorem acc_nodup {rs : List Tm} (nd : (rs.map (·.1)).Nodup) (t : Tm) : ((accR rs t).map (·.1)).Nodup := by
  rw [acc_keys]
  split
  · exact nd
  · rename_i h
    have q : findR rs t.1 = none := by
      cases e : findR rs t.1 with
      | none => rfl
      | some x => rw [e] at h; simp at h
    rw [findR_none] at q
    rw [List.nodup_append]
    refine ⟨nd, by simp, fun a ha b hb => ?_⟩
    rw [List.mem_singleton.mp hb]
    exact fun z => q (by rw [← z]; exact ha)
theorem fs_app (p : List Rat) : ∀ A B : List Tm, fs p (A ++ B) = fs p A + fs p B
  | [], B => by simp only [List.nil_append, fs]; grind
  | a :: A, B => by rw [List.cons_append, fs, fs_app p A B, fs]; grind
theorem fs_rep (p : List Rat) (t : Tm) : ∀ rs : List Tm, (rs.map (·.1)).Nodup →
    fs p (rs.map (fun r => if r.1 = t.1 then (r.1, r.2 + t.2) else r)) = fs p rs + (if (findR rs t.1).isSome then t.2 * mon t.1 p else 0)
  | [], _ => by simp only [List.map_nil, fs, findR, List.find?_nil, Option.map_none, Option.isSome_none, Bool.false_eq_true, if_false]; grind
  | r :: rs, nd => by
    rw [List.map_cons, List.nodup_cons] at nd
    have ih := fs_rep p t rs nd.2
    rw [List.map_cons, fs, fs, ih, findR_cons]
    by_cases h : r.1 = t.1
    · have q : findR rs t.1 = none := findR_none.mpr (by rw [← h]; exact nd.1)
      rw [if_pos h, if_pos h, q]
      simp only [Option.isSome_none, Bool.false_eq_true, if_false, Option.isSome_some, if_true]
      rw [h]
      grind
    · rw [if_neg h, if_neg h]
      grind
theorem fs_acc (p : List Rat) {rs : List Tm} (nd : (rs.map (·.1)).Nodup) (t : Tm) : fs p (accR rs t) = fs p rs + t.2 * mon t.1 p := by
  unfold accR
  split
  · rename_i h
    rw [fs_rep p t rs nd, if_pos h]
  · rw [fs_app, fs, fs]
    grind
theorem gat_fold (p : List Rat) : ∀ (ts rs : List Tm), (rs.map (·.1)).Nodup → ((ts.foldl accR rs).map (·.1)).Nodup ∧ fs p (ts.foldl accR rs) = fs p rs + fs p ts
  | [], rs, nd => by refine ⟨nd, ?_⟩; rw [List.foldl_nil, fs]; grind
  | t :: ts, rs, nd => by
    obtain ⟨a, b⟩ := gat_fold p ts (accR rs t) (acc_nodup nd t)
    refine ⟨a, ?_⟩
    rw [List.foldl_cons, b, fs_acc p nd, fs]
    grind
theorem gat_nodup (ts : List Tm) : ((gat ts).map (·.1)).Nodup := (gat_fold [] ts [] (by simp)).1
theorem fs_gat (p : List Rat) (ts : List Tm) : fs p (gat ts) = fs p ts := by
  unfold gat
  rw [(gat_fold p ts [] (by simp)).2, fs]
  grind
theorem fs_perm (p : List Rat) {A B : List Tm} (h : A.Perm B) : fs p A = fs p B := by
  induction h with
  | nil => rfl
  | cons x _ ih => rw [fs, fs, ih]
  | swap x y l => rw [fs, fs, fs, fs]; grind
  | trans _ _ a b => rw [a, b]
theorem fs_nz (p : List Rat) : ∀ A : List Tm, fs p (A.filter nz) = fs p A
  | [] => rfl
  | t :: A => by
    rw [List.filter_cons]
    by_cases h : nz t = true
    · rw [if_pos h, fs, fs, fs_nz p A]
    · have e : t.2 = 0 := by
        unfold nz at h
        simpa using h
      rw [if_neg h, fs, fs_nz p A, e]
      grind
theorem sortK_perm (ks : List (List Int)) : (sortK ks).Perm ks := List.mergeSort_perm ks _
theorem back_map {rs : List Tm} (nd : (rs.map (·.1)).Nodup) : ((rs.map (·.1)).map fun k => (k, (findR rs k).getD 0)) = rs := by
  rw [List.map_map]
  have : ∀ r ∈ rs, ((fun k => (k, (findR rs k).getD 0)) ∘ fun x : Tm => x.1) r = r := fun r m => by
    show (r.1, (findR rs r.1).getD 0) = r
    rw [findR_mem nd m]
    rfl
  rw [List.map_congr_left this, List.map_id']
theorem fw_perm (ts : List Tm) : (fw ts).Perm ((gat ts).filter nz) := by
  unfold fw
  refine List.Perm.filter _ ?_
  have q := (sortK_perm ((gat ts).map (·.1))).map fun k => (k, (findR (gat ts) k).getD 0)
  rw [back_map (gat_nodup ts)] at q
  exact q
/-- gathering changes no worth -/
theorem fs_fw (p : List Rat) (ts : List Tm) : fs p (fw ts) = fs p ts := by
  rw [fs_perm p (fw_perm ts), fs_nz, fs_gat]

/-! ### order -/
theorem encK_le : PySem.W.dataLe false encK = fun p q => decide (p ≤ q) := by
  have := PySem.W.dataLe_rows (β := List Int) fun x => x
  exact this
theorem sortK_sorted (ks : List (List Int)) : (sortK ks).Pairwise (· ≤ ·) := by
  unfold sortK
  rw [encK_le]
  refine (List.pairwise_mergeSort (fun a b c h1 h2 => ?_) (fun a b => ?_) ks).imp fun h => of_decide_eq_true h
  · exact decide_eq_true (List.le_trans (of_decide_eq_true h1) (of_decide_eq_true h2))
  · rw [Bool.or_eq_true, decide_eq_true_eq, decide_eq_true_eq]
    exact List.le_total a b
theorem fw_sorted (ts : List Tm) : (fw ts).Pairwise fun a b => a.1 ≤ b.1 := by
  unfold fw
  exact List.Pairwise.filter _ (List.pairwise_map.mpr (sortK_sorted _))
theorem fw_nodup (ts : List Tm) : ((fw ts).map (·.1)).Nodup := by
  have q := (fw_perm ts).map (·.1)
  rw [q.nodup_iff]
  exact (gat_nodup ts).sublist (List.Sublist.map _ List.filter_sublist)
theorem lt_of_le_ne {a b : List Int} (h : a ≤ b) (n : a ≠ b) : a < b := by
  apply Classical.byContradiction
  intro z
  exact n (List.le_antisymm h (List.not_lt.mp z))
theorem strict_of : ∀ {l : List Tm}, (l.Pairwise fun a b => a.1 ≤ b.1) → (l.map (·.1)).Nodup → l.Pairwise fun a b => a.1 < b.1
  | [], _, _ => .nil
  | a :: l, h, n => by
    rw [List.map_cons, List.nodup_cons] at n
    rw [List.pairwise_cons] at h ⊢
    refine ⟨fun b hb => lt_of_le_ne (h.1 b hb) fun z => n.1 ?_, strict_of h.2 n.2⟩
    rw [z]
    exact List.mem_map.mpr ⟨b, hb, rfl⟩
theorem fw_strict (ts : List Tm) : (fw ts).Pairwise fun a b => a.1 < b.1 := strict_of (fw_sorted ts) (fw_nodup ts)
/-- one sorted row -/
theorem sorted_one {A B : List Tm} (p : A.Perm B) (ha : A.Pairwise fun a b => a.1 ≤ b.1) (hb : B.Pairwise fun a b => a.1 ≤ b.1) (nd : (A.map (·.1)).Nodup) : A = B := by
  refine List.Perm.eq_of_pairwise (le := fun a b : Tm => a.1 ≤ b.1) (fun a b m1 m2 h1 h2 => ?_) ha hb p
  have e := List.le_antisymm h1 h2
  have f1 := findR_mem nd m1
  have f2 := findR_mem nd (p.mem_iff.mpr m2)
  rw [e, f2] at f1
  exact Prod.ext e (Option.some.inj f1.symm)
def encP (t : Tm) : PyData := .tuple [.tuple (t.1.map .int), .tuple [.int t.2.num, .int t.2.den]]
theorem encP_le (a b : Tm) (h : PySem.W.dataLe false encP a b = true) : a.1 ≤ b.1 := by
  have h : (!PySem.W.dataLt (encP b) (encP a)) = true := h
  unfold encP at h
  have e1 : PySem.W.alike (.tuple (b.1.map .int)) (.tuple (a.1.map .int)) = true := by rw [PySem.W.alike]; exact PySem.W.alike_ints _ _
  have e2 : PySem.W.alike (.tuple [.int b.2.num, .int b.2.den]) (.tuple [.int a.2.num, .int a.2.den]) = true := by
    have := PySem.W.alike_ints [b.2.num, b.2.den] [a.2.num, a.2.den]
    rw [PySem.W.alike]; exact this
  have e3 : PySem.W.dataLt (.tuple (b.1.map .int)) (.tuple (a.1.map .int)) = decide (b.1 < a.1) := PySem.W.dataLt_ints b.1 a.1
  rw [PySem.W.dataLt_pair e1 e2, e3] at h
  by_cases c : PyData.eqv (.tuple (b.1.map .int)) (.tuple (a.1.map .int)) = true
  · have k1 := (PySem.W.toks_eqv _ _ e1).1 c
    have k3 : PySem.W.dataLt (.tuple (a.1.map .int)) (.tuple (b.1.map .int)) = decide (a.1 < b.1) := PySem.W.dataLt_ints a.1 b.1
    have k2 : PySem.W.dataLt (.tuple (b.1.map .int)) (.tuple (a.1.map .int)) = false := by
      unfold PySem.W.dataLt
      rw [k1]
      exact PyProof.Rows.lex_irrefl _
    rw [e3] at k2
    exact List.not_lt.mp (of_decide_eq_false k2)
  · rw [if_neg c] at h
    exact List.not_lt.mp (by simpa using h)
/-- the law's own sorting -/
theorem sort_law (ts : List Tm) : ((gat ts).filter nz).mergeSort (PySem.W.dataLe false encP) = fw ts := by
  have t := PySem.W.sortLe_total (PyProof.Rows.listOrd PyProof.Rows.itemOrd) false fun b : Tm => PySem.W.keyToks (encP b)
  have s : (((gat ts).filter nz).mergeSort (PySem.W.dataLe false encP)).Pairwise fun a b => a.1 ≤ b.1 :=
    (List.pairwise_mergeSort (fun a b c h1 h2 => t.trans a b c h1 h2) (fun a b => by rw [Bool.or_eq_true]; exact t.total a b) _).imp fun h => encP_le _ _ h
  refine sorted_one (((List.mergeSort_perm _ _)).trans (fw_perm ts).symm) s (fw_sorted ts) ?_
  rw [((List.mergeSort_perm ((gat ts).filter nz) (PySem.W.dataLe false encP)).map (·.1)).nodup_iff]
  exact (gat_nodup ts).sublist (List.Sublist.map _ List.filter_sublist)
theorem lex_lt : ∀ a b : List Int, HT.lexLt a b = decide (a < b)
  | [], [] => by simp [HT.lexLt]
  | [], _ :: _ => by simp [HT.lexLt]
  | _ :: _, [] => by simp [HT.lexLt]
  | x :: a, y :: b => by
    rw [HT.lexLt_cons, lex_lt a b]
    by_cases h : x = y
    · subst h
      simp [List.cons_lt_cons_iff]
    · simp [h, List.cons_lt_cons_iff]
end HS

/-! Forms of several unknowns: what a term, a form tells at a place. -/
namespace HS
open PySem L2
def L_raised_ratio_0 (f_ratio_product : Nat) : Ss :=
    (.cons (.asg (.nm 2) (.call f_ratio_product (.cons (.var 2) (.cons (.var 0) .nil)))) .nil)
def B_raised_ratio (g_ONE f_ratio_product : Nat) : Ss :=
  (.cons (.asg (.nm 2) (.glb g_ONE)) 
  (.cons (.fr (.nm 3) (.rng (.cons (.var 1) .nil)) (L_raised_ratio_0 f_ratio_product)) 
  (.cons (.ret (.var 2)) .nil)))
def F_raised_ratio (g_ONE f_ratio_product : Nat) : Df := ⟨2, 4, B_raised_ratio g_ONE f_ratio_product⟩
def L_worth_of_form_0 (f_ratio_product f_raised_ratio : Nat) : Ss :=
      (.cons (.asg (.nm 4) (.call f_ratio_product (.cons (.var 4) (.cons (.call f_raised_ratio (.cons (.var 6) (.cons (.var 5) .nil))) .nil)))) .nil)
def L_worth_of_form_1 (f_ratio_product f_raised_ratio f_ratio_sum : Nat) : Ss :=
    (.cons (.fr (.tup (.cons (.nm 5) (.cons (.nm 6) .nil))) (.zip (.var 3) (.var 1)) (L_worth_of_form_0 f_ratio_product f_raised_ratio)) 
    (.cons (.asg (.nm 2) (.call f_ratio_sum (.cons (.var 2) (.cons (.var 4) .nil)))) .nil))
def B_worth_of_form (g_ZERO f_ratio_product f_raised_ratio f_ratio_sum : Nat) : Ss :=
  (.cons (.asg (.nm 2) (.glb g_ZERO)) 
  (.cons (.fr (.tup (.cons (.nm 3) (.cons (.nm 4) .nil))) (.pln (.var 0)) (L_worth_of_form_1 f_ratio_product f_raised_ratio f_ratio_sum)) 
  (.cons (.ret (.var 2)) .nil)))
def F_worth_of_form (g_ZERO f_ratio_product f_raised_ratio f_ratio_sum : Nat) : Df := ⟨2, 7, B_worth_of_form g_ZERO f_ratio_product f_raised_ratio f_ratio_sum⟩
def B_worths_of (f_worth_of_form : Nat) : Ss :=
  (.cons (.ret (.blt .tuple (.cons (.lc (.call f_worth_of_form (.cons (.var 2) (.cons (.var 1) .nil))) (.nm 2) (.pln (.var 0)) .no [2]) .nil))) .nil)
def F_worths_of (f_worth_of_form : Nat) : Df := ⟨2, 3, B_worths_of f_worth_of_form⟩
def L_law_raised_0 (f__law_times : Nat) : Ss :=
    (.cons (.asg (.nm 2) (.call f__law_times (.cons (.var 2) (.cons (.var 0) .nil)))) .nil)
def B_law_raised (f__law_times : Nat) : Ss :=
  (.cons (.asg (.nm 2) (.tup (.cons (.int 1) (.cons (.int 1) .nil)))) 
  (.cons (.fr (.nm 3) (.rng (.cons (.var 1) .nil)) (L_law_raised_0 f__law_times)) 
  (.cons (.ret (.var 2)) .nil)))
def F_law_raised (f__law_times : Nat) : Df := ⟨2, 4, B_law_raised f__law_times⟩
def L_law_term_worth_0 (f__law_times f__law_raised : Nat) : Ss :=
    (.cons (.asg (.nm 2) (.call f__law_times (.cons (.var 2) (.cons (.call f__law_raised (.cons (.var 4) (.cons (.var 3) .nil))) .nil)))) .nil)
def B_law_term_worth (f__law_times f__law_raised : Nat) : Ss :=
  (.cons (.asg (.nm 2) (.idx (.var 0) (.int 1))) 
  (.cons (.fr (.tup (.cons (.nm 3) (.cons (.nm 4) .nil))) (.zip (.idx (.var 0) (.int 0)) (.var 1)) (L_law_term_worth_0 f__law_times f__law_raised)) 
  (.cons (.ret (.var 2)) .nil)))
def F_law_term_worth (f__law_times f__law_raised : Nat) : Df := ⟨2, 5, B_law_term_worth f__law_times f__law_raised⟩
def L_law_worth_0 (f__law_plus f__law_term_worth : Nat) : Ss :=
    (.cons (.asg (.nm 2) (.call f__law_plus (.cons (.var 2) (.cons (.call f__law_term_worth (.cons (.var 3) (.cons (.var 1) .nil))) .nil)))) .nil)
def B_law_worth (f__law_plus f__law_term_worth : Nat) : Ss :=
  (.cons (.asg (.nm 2) (.tup (.cons (.int 0) (.cons (.int 1) .nil)))) 
  (.cons (.fr (.nm 3) (.pln (.var 0)) (L_law_worth_0 f__law_plus f__law_term_worth)) 
  (.cons (.ret (.var 2)) .nil)))
def F_law_worth (f__law_plus f__law_term_worth : Nat) : Df := ⟨2, 4, B_law_worth f__law_plus f__law_term_worth⟩
theorem Sz.powJ {B : Nat} {q : Rat} (h : Sz B q) (n : Nat) : Sz (B * n + 1) (q ^ n) := by
  have lt1 : ∀ {a b : Nat}, a ≤ 2 ^ b → a < 2 ^ (b + 1) := fun {a b} h => by
    have : 2 ^ b < 2 ^ (b + 1) := Nat.pow_lt_pow_right (by decide) (by omega)
    omega
  constructor
  · show Bt _ (q.num ^ n)
    unfold Bt
    rw [Int.natAbs_pow]
    have := Nat.pow_le_pow_left (Nat.le_of_lt h.1) n
    rw [← Nat.pow_mul] at this
    exact lt1 this
  · show Bt _ ((q.den ^ n : Nat) : Int)
    unfold Bt
    rw [Int.natAbs_natCast]
    have hd : q.den < 2 ^ B := by have := h.2; unfold Bt at this; simpa using this
    have := Nat.pow_le_pow_left (Nat.le_of_lt hd) n
    rw [← Nat.pow_mul] at this
    exact lt1 this
/-- a loop whose turns keep what is said of their number, of what they gathered -/
theorem for_inv {α β : Type} {gs : Gs} {tg : D → En → Hh → R En} {bd : En → Hh → R F} (enc : α → D) (f : β → α → β) (I : Nat → β → En → Hh → Prop) (hg : ∀ i b ρ h, I i b ρ h → gsOk gs h) :
    ∀ (items : List α) (k : Nat) (b : β) (ρ : En) (h : Hh),
      (∀ (i : Nat) (a : α) (b : β) (ρ : En) (h : Hh), items[i]? = some a → I (k + i) b ρ h → ∃ ρ1 h1 ρ2 h2, tg (enc a) ρ h = .ok ρ1 h1 ∧ bd ρ1 h1 = .ok (.nx ρ2) h2 ∧ I (k + i + 1) (f b a) ρ2 h2) → I k b ρ h →
      ∃ ρ' h', forL gs tg bd (items.map enc) ρ h = .ok (.nx ρ') h' ∧ I (k + items.length) (items.foldl f b) ρ' h'
  | [], k, b, ρ, h, _, i0 => ⟨ρ, h, by simp [forL, hg _ _ _ _ i0], i0⟩
  | a :: items, k, b, ρ, h, hs, i0 => by
    obtain ⟨ρ1, h1, ρ2, h2, e1, e2, i1⟩ := hs 0 a b ρ h rfl i0
    obtain ⟨ρ', h', e3, i2⟩ := for_inv enc f I hg items (k + 1) (f b a) ρ2 h2 (fun i a b ρ h ea ii => by
      have := hs (i + 1) a b ρ h (by simpa using ea) (by rw [show k + (i + 1) = k + 1 + i by omega]; exact ii)
      rw [show k + (i + 1) + 1 = k + 1 + i + 1 by omega] at this
      exact this) i1
    refine ⟨ρ', h', ?_, by rw [List.length_cons, List.foldl_cons, show k + (items.length + 1) = k + 1 + items.length by omega]; exact i2⟩
    rw [List.map_cons]
    unfold forL
    rw [if_pos (hg _ _ _ _ i0), e1, R.calm_ok, R.bind_ok, e2, R.bind_ok]
    exact e3
def S_rz (f : Fn) : Prop := ∀ (x : Rat) (k : Int) (X : Nat) h, Sz X x → 0 ≤ k → k ≤ 16 → 17 * X + 40 ≤ 8999 → f [fr x, .int k] h = .ok (fr (rz x k)) h
theorem upFrom_map (n : Nat) : upFrom 0 n = (List.range n).map fun i => D.int (0 + (i : Nat)) := rfl
theorem fold_pow (x : Rat) : ∀ (l : List Nat) (z : Rat), l.foldl (fun b _ => b * x) z = z * x ^ l.length
  | [], z => by simp
  | _ :: l, z => by
    rw [List.foldl_cons, fold_pow x l, List.length_cons, Rat.pow_succ]
    grind
section
variable {Δ : Nat → Fn} {gl : Nat → D}
theorem small_le {k : Int} (h0 : 0 ≤ k) (h1 : k ≤ 1000) : small62 k = true := by
  unfold small62
  rw [decide_eq_true_iff]
  omega
theorem raised_loop {j : Nat} (hm : S_op (· * ·) (Δ j)) {x : Rat} {X k : Nat} (sx : Sz X x) (hX : 17 * X + 40 ≤ 8999) (hk : k ≤ 16) (v1 : Option D) (h : Hh) :
    ∃ z, forL [] (fun d ρ h => asn Δ gl (.nm 3) d ρ h) (fun ρ h => exs Δ gl (L_raised_ratio_0 j) ρ h) (upFrom 0 k) [some (fr x), v1, some (fr 1), none] h = .ok (.nx [some (fr x), v1, some (fr (x ^ k)), z]) h := by
  rw [upFrom_map]
  obtain ⟨ρ', h', e, i2⟩ := for_inv (gs := []) (tg := fun d ρ h => asn Δ gl (.nm 3) d ρ h) (bd := fun ρ h => exs Δ gl (L_raised_ratio_0 j) ρ h) (fun i : Nat => D.int (0 + (i : Nat))) (fun (b : Rat) (_ : Nat) => b * x)
    (fun i b ρ h' => h' = h ∧ b = x ^ i ∧ ∃ z, ρ = [some (fr x), v1, some (fr b), z]) (fun _ _ _ _ _ => gsOk_nil _) (List.range k) 0 1 [some (fr x), v1, some (fr 1), none] h
    (fun i a b ρ h1 ea ⟨eh, eb, z, er⟩ => by
      subst eh er
      have hi : i < k := by
        have := (List.getElem?_eq_some_iff.mp ea).1
        simpa using this
      have eb : b = x ^ i := by rw [eb, Nat.zero_add]
      have sb : Sz (X * i + 1) b := by rw [eb]; exact sx.powJ i
      have le : X * i ≤ X * 16 := Nat.mul_le_mul_left X (by omega)
      have m := hm b x (X * i + 1) X h1 sb sx (by omega)
      refine ⟨[some (fr x), v1, some (fr b), some (.int (0 + (a : Nat)))], h1, [some (fr x), v1, some (fr (b * x)), some (.int (0 + (a : Nat)))], h1, by simp [asn, List.set], ?_, rfl, ?_, _, rfl⟩
      · simp [L_raised_ratio_0, exs, ex, ev, evs, m, asn, List.set, R.calm]
      · rw [eb, Nat.zero_add, Rat.pow_succ]) ⟨rfl, by rw [Rat.pow_zero], none, rfl⟩
  obtain ⟨rfl, _, z, rfl⟩ := i2
  refine ⟨z, ?_⟩
  rw [e, fold_pow, List.length_range]
  have : (1 : Rat) * x ^ k = x ^ k := by grind
  rw [this]
theorem s_raised {k j : Nat} (h1 : gl k = fr 1) (hm : S_op (· * ·) (Δ j)) : S_rz (run Δ gl (F_raised_ratio k j)) := by
  intro x p X h sx p0 p1 hX
  obtain ⟨n, rfl⟩ := Int.eq_ofNat_of_zero_le p0
  obtain ⟨z, e⟩ := raised_loop (Δ := Δ) (gl := gl) hm sx hX (k := n) (by omega) (some (.int (n : Int))) h
  have e62 : small62 (n : Int) = true := small_le (by omega) (by omega)
  have key : exs Δ gl (B_raised_ratio k j) [some (fr x), some (.int (n : Int)), none, none] h = .ok (.rt (fr (rz x (n : Int)))) h := by
    unfold B_raised_ratio
    refine (exs_nx (ex_asg (d := fr 1) (h1 := h) (by simp [ev, h1]))).trans ?_
    refine (exs_nx (ex_for (p := upFrom 0 n) (gs := []) (h1 := h) (evi_rng1 (by simp [evs, ev]) e62) e)).trans ?_
    exact exs_rt (by simp only [ev, List.getElem?_cons_succ, List.getElem?_cons_zero]; rfl)
  have t := run_rt (f := F_raised_ratio k j) (xs := [fr x, .int (n : Int)]) rfl key
  rw [t]
  exact tidy_self (fr_flat _)
theorem s_law_raised {j : Nat} (hm : S_op (· * ·) (Δ j)) : S_rz (run Δ gl (F_law_raised j)) := by
  intro x p X h sx p0 p1 hX
  obtain ⟨n, rfl⟩ := Int.eq_ofNat_of_zero_le p0
  obtain ⟨z, e⟩ := raised_loop (Δ := Δ) (gl := gl) hm sx hX (k := n) (by omega) (some (.int (n : Int))) h
  have e62 : small62 (n : Int) = true := small_le (by omega) (by omega)
  have key : exs Δ gl (B_law_raised j) [some (fr x), some (.int (n : Int)), none, none] h = .ok (.rt (fr (rz x (n : Int)))) h := by
    unfold B_law_raised
    refine (exs_nx (ex_asg (d := fr 1) (h1 := h) (by simp [ev, evs, lineOk, sizeLine, fr]))).trans ?_
    refine (exs_nx (ex_for (p := upFrom 0 n) (gs := []) (h1 := h) (evi_rng1 (by simp [evs, ev]) e62) e)).trans ?_
    exact exs_rt (by simp only [ev, List.getElem?_cons_succ, List.getElem?_cons_zero]; rfl)
  have t := run_rt (f := F_law_raised j) (xs := [fr x, .int (n : Int)]) rfl key
  rw [t]
  exact tidy_self (fr_flat _)
end

/-! ### terms -/
structure OkT (n B : Nat) (t : Tm) : Prop where
  len : t.1.length = n
  pos : ∀ k ∈ t.1, 0 ≤ k ∧ k ≤ 16
  sz : Sz B t.2
structure OkPl (n X : Nat) (p : List Rat) : Prop where
  len : p.length = n
  sz : ∀ x ∈ p, Sz X x
theorem rz_sz {x : Rat} {X : Nat} {k : Int} (h : Sz X x) (k0 : 0 ≤ k) (k1 : k ≤ 16) : Sz (16 * X + 1) (rz x k) := by
  refine (h.powJ k.toNat).mono ?_
  have := Nat.mul_le_mul_left X (show k.toNat ≤ 16 by omega)
  omega
theorem fold_mon : ∀ (ks : List Int) (p : List Rat) (z : Rat), (ks.zip p).foldl (fun a (q : Int × Rat) => a * rz q.2 q.1) z = z * mon ks p
  | [], p, z => by simp only [List.zip_nil_left, List.foldl_nil, mon]; grind
  | k :: ks, [], z => by simp only [List.zip_nil_right, List.foldl_nil, mon]; grind
  | k :: ks, x :: p, z => by
    rw [List.zip_cons_cons, List.foldl_cons, fold_mon ks p, mon]
    grind
def enc2 (q : Int × Rat) : D := .tup [.int q.1, fr q.2]
theorem pairs_enc : ∀ (ks : List Int) (p : List Rat), pairs (ks.map .int) (p.map fr) = (ks.zip p).map enc2
  | [], p => rfl
  | k :: ks, [] => rfl
  | k :: ks, x :: p => by
    have := pairs_enc ks p
    unfold pairs at this ⊢
    simp only [List.map_cons, List.zip_cons_cons, this, enc2]
theorem zip_ok {n B X : Nat} {t : Tm} {p : List Rat} (ot : OkT n B t) (op : OkPl n X p) {i : Nat} {q : Int × Rat} (e : (t.1.zip p)[i]? = some q) : 0 ≤ q.1 ∧ q.1 ≤ 16 ∧ Sz X q.2 := by
  have m := List.mem_of_getElem? e
  have a := List.of_mem_zip (a := q.1) (b := q.2) m
  exact ⟨(ot.pos _ a.1).1, (ot.pos _ a.1).2, op.sz _ a.2⟩
theorem mon_sz {X : Nat} : ∀ (ks : List Int) (p : List Rat), (∀ k ∈ ks, 0 ≤ k ∧ k ≤ 16) → (∀ x ∈ p, Sz X x) → ks.length ≤ 3 → Sz (ks.length * (16 * X + 1) + 1) (mon ks p)
  | [], p, _, _, _ => by
    have e : mon [] p = 1 := by simp [mon]
    rw [e]; exact sz1.mono (by simp)
  | k :: ks, [], _, _, _ => by
    have e : mon (k :: ks) [] = 1 := by simp [mon]
    rw [e]; exact sz1.mono (by omega)
  | k :: ks, x :: p, h1, h2, hl => by
    rw [mon]
    have a := mon_sz ks p (fun y m => h1 y (List.mem_cons_of_mem _ m)) (fun y m => h2 y (List.mem_cons_of_mem _ m)) (by simp at hl; omega)
    have b := rz_sz (h2 x List.mem_cons_self) (h1 k List.mem_cons_self).1 (h1 k List.mem_cons_self).2
    refine (b.mul a).mono ?_
    rw [List.length_cons, Nat.add_mul]
    omega
theorem tv_sz {n B X : Nat} {t : Tm} {p : List Rat} (ot : OkT n B t) (op : OkPl n X p) (hn : n ≤ 3) : Sz (B + 3 * (16 * X + 1) + 1) (t.2 * mon t.1 p) := by
  refine (ot.sz.mul (mon_sz t.1 p ot.pos op.sz (by rw [ot.len]; exact hn))).mono ?_
  have := Nat.mul_le_mul_right (16 * X + 1) (show t.1.length ≤ 3 by rw [ot.len]; exact hn)
  omega
def S_tw (f : Fn) : Prop := ∀ (n B X : Nat) (t : Tm) (p : List Rat) h, OkT n B t → OkPl n X p → n ≤ 3 → B + 4 * (16 * X + 1) + 40 ≤ 8999 → f [ftm t, .tup (p.map fr)] h = .ok (fr (t.2 * mon t.1 p)) h
end HS

/-! Forms of several unknowns: worths. -/
namespace HS
open PySem L2
section
variable {Δ : Nat → Fn} {gl : Nat → D}
theorem evi_zipT {a b : E} {ρ : En} {h : Hh} {xs ys : List D} (e1 : ev Δ gl a ρ h = .ok (.tup xs) h) (e2 : ev Δ gl b ρ h = .ok (.tup ys) h) : evi Δ gl (.zip a b) ρ h = .ok (pairs xs ys, []) h := by
  rw [evi, e1, R.bind_ok, e2, R.bind_ok]
  simp [itemsD]
theorem evi_plnT {a : E} {ρ : En} {h : Hh} {xs : List D} (e1 : ev Δ gl a ρ h = .ok (.tup xs) h) : evi Δ gl (.pln a) ρ h = .ok (xs, []) h := by
  rw [evi, e1, R.bind_ok]
  simp [itemsD]
theorem ftm_flat (t : Tm) : (ftm t).flat = true := by
  simp [ftm, D.flat, D.flats, fr_flat, D.flats_iff]
theorem s_law_term_worth {i j : Nat} (hm : S_op (· * ·) (Δ i)) (hr : S_rz (Δ j)) : S_tw (run Δ gl (F_law_term_worth i j)) := by
  intro n B X t p h ot op hn hB
  have ez : evi Δ gl (.zip (.idx (.var 0) (.int 0)) (.var 1)) [some (ftm t), some (.tup (p.map fr)), some (fr t.2), none, none] h = .ok ((t.1.zip p).map enc2, []) h := by
    rw [← pairs_enc]
    exact evi_zipT (by simp [ev, ixD, ftm]) (by simp [ev])
  have hz : (t.1.zip p).length ≤ 3 := by rw [List.length_zip, ot.len]; omega
  obtain ⟨ρ', h', e, i2⟩ := for_inv (gs := []) (tg := fun d ρ h => asn Δ gl (.tup (.cons (.nm 3) (.cons (.nm 4) .nil))) d ρ h) (bd := fun ρ h => exs Δ gl (L_law_term_worth_0 i j) ρ h) enc2 (fun a (q : Int × Rat) => a * rz q.2 q.1)
    (fun k b ρ h' => h' = h ∧ Sz (B + k * (16 * X + 1)) b ∧ ∃ v3 v4, ρ = [some (ftm t), some (.tup (p.map fr)), some (fr b), v3, v4]) (fun _ _ _ _ _ => gsOk_nil _) (t.1.zip p) 0 t.2 [some (ftm t), some (.tup (p.map fr)), some (fr t.2), none, none] h
    (fun k q b ρ h1 ea ⟨eh, sb, v3, v4, er⟩ => by
      subst eh er
      obtain ⟨q0, q1, q2⟩ := zip_ok ot op ea
      have hk : k < (t.1.zip p).length := (List.getElem?_eq_some_iff.mp ea).1
      have le := Nat.mul_le_mul_right (16 * X + 1) (show 0 + k ≤ 2 by omega)
      have r := hr q.2 q.1 X h1 q2 q0 q1 (by omega)
      have m := hm b (rz q.2 q.1) _ _ h1 sb (rz_sz q2 q0 q1) (by omega)
      refine ⟨[some (ftm t), some (.tup (p.map fr)), some (fr b), some (.int q.1), some (fr q.2)], h1, [some (ftm t), some (.tup (p.map fr)), some (fr (b * rz q.2 q.1)), some (.int q.1), some (fr q.2)], h1, by simp [enc2, asn, asns, List.set], ?_, rfl, ?_, _, _, rfl⟩
      · simp [L_law_term_worth_0, exs, ex, ev, evs, r, m, asn, List.set, R.calm]
      · refine (sb.mul (rz_sz q2 q0 q1)).mono ?_
        rw [Nat.add_mul (0 + k) 1]
        omega) ⟨rfl, by simpa using ot.sz, none, none, rfl⟩
  obtain ⟨rfl, _, v3, v4, rfl⟩ := i2
  rw [fold_mon] at e
  have key : exs Δ gl (B_law_term_worth i j) [some (ftm t), some (.tup (p.map fr)), none, none, none] h' = .ok (.rt (fr (t.2 * mon t.1 p))) h' := by
    unfold B_law_term_worth
    refine (exs_nx (ex_asg (d := fr t.2) (h1 := h') (by simp [ev, ixD, ftm]))).trans ?_
    refine (exs_nx (ex_for (p := (t.1.zip p).map enc2) (gs := []) (h1 := h') ez e)).trans ?_
    exact exs_rt (by simp [ev])
  have r := run_rt (f := F_law_term_worth i j) (xs := [ftm t, .tup (p.map fr)]) rfl key
  rw [r]
  exact tidy_self (fr_flat _)
theorem fold_fs (p : List Rat) : ∀ (F : List Tm) (z : Rat), F.foldl (fun a t => a + t.2 * mon t.1 p) z = z + fs p F
  | [], z => by rw [List.foldl_nil, fs]; grind
  | t :: F, z => by
    rw [List.foldl_cons, fold_fs p F, fs]
    grind
/-- a bound for a term's worth -/
abbrev TB (B X : Nat) : Nat := B + 3 * (16 * X + 1) + 1
def S_wf (f : Fn) : Prop := ∀ (n B X : Nat) (F : List Tm) (p : List Rat) h, (∀ t ∈ F, OkT n B t) → OkPl n X p → n ≤ 3 → (F.length + 1) * (TB B X + 1) + 100 + 16 * X + B ≤ 8999 → f [ffm F, .tup (p.map fr)] h = .ok (fr (fs p F)) h
theorem s_law_worth {i j : Nat} (ha : S_op (· + ·) (Δ i)) (hw : S_tw (Δ j)) : S_wf (run Δ gl (F_law_worth i j)) := by
  intro n B X F p h oF op hn hB
  have hT : TB B X = B + 3 * (16 * X + 1) + 1 := rfl
  have e0 : (fr 0 : D) = .tup [.int 0, .int 1] := rfl
  obtain ⟨ρ', h', e, i2⟩ := for_inv (gs := []) (tg := fun d ρ h => asn Δ gl (.nm 3) d ρ h) (bd := fun ρ h => exs Δ gl (L_law_worth_0 i j) ρ h) ftm (fun a (t : Tm) => a + t.2 * mon t.1 p)
    (fun k b ρ h' => h' = h ∧ Sz (k * (TB B X + 1) + 1) b ∧ ∃ v3, ρ = [some (ffm F), some (.tup (p.map fr)), some (fr b), v3]) (fun _ _ _ _ _ => gsOk_nil _) F 0 0 [some (ffm F), some (.tup (p.map fr)), some (fr 0), none] h
    (fun k t b ρ h1 ea ⟨eh, sb, v3, er⟩ => by
      subst eh er
      have ot := oF t (List.mem_of_getElem? ea)
      have hk : k < F.length := (List.getElem?_eq_some_iff.mp ea).1
      have st := tv_sz ot op hn
      have le := Nat.mul_le_mul_right (TB B X + 1) (show 0 + k + 2 ≤ F.length + 1 by omega)
      rw [Nat.add_mul] at le
      have w := hw n B X t p h1 ot op hn (by omega)
      have m := ha b (t.2 * mon t.1 p) _ _ h1 sb st (by omega)
      refine ⟨[some (ffm F), some (.tup (p.map fr)), some (fr b), some (ftm t)], h1, [some (ffm F), some (.tup (p.map fr)), some (fr (b + t.2 * mon t.1 p)), some (ftm t)], h1, by simp [asn, List.set], ?_, rfl, ?_, _, rfl⟩
      · simp [L_law_worth_0, exs, ex, ev, evs, w, m, asn, List.set, R.calm]
      · refine (sb.add st).mono ?_
        rw [Nat.add_mul (0 + k) 1]
        omega) ⟨rfl, (show Sz 1 0 from ⟨bts (by decide), bts (by decide)⟩).mono (by omega), none, rfl⟩
  obtain ⟨rfl, _, v3, rfl⟩ := i2
  rw [fold_fs] at e
  have key : exs Δ gl (B_law_worth i j) [some (ffm F), some (.tup (p.map fr)), none, none] h' = .ok (.rt (fr (fs p F))) h' := by
    unfold B_law_worth
    refine (exs_nx (ex_asg (d := fr 0) (h1 := h') (by simp [ev, evs, lineOk, sizeLine, e0]))).trans ?_
    refine (exs_nx (ex_for (p := F.map ftm) (gs := []) (h1 := h') (evi_plnT (by simp [ev, ffm])) e)).trans ?_
    refine exs_rt ?_
    have z : (0 : Rat) + fs p F = fs p F := by grind
    simp [ev, z]
  have r := run_rt (f := F_law_worth i j) (xs := [ffm F, .tup (p.map fr)]) rfl key
  rw [r]
  exact tidy_self (fr_flat _)
theorem s_worth_of_form {k i j l : Nat} (h0 : gl k = fr 0) (hm : S_op (· * ·) (Δ i)) (hr : S_rz (Δ j)) (ha : S_op (· + ·) (Δ l)) : S_wf (run Δ gl (F_worth_of_form k i j l)) := by
  intro n B X F p h oF op hn hB
  have hT : TB B X = B + 3 * (16 * X + 1) + 1 := rfl
  obtain ⟨ρ', h', e, i2⟩ := for_inv (gs := []) (tg := fun d ρ h => asn Δ gl (.tup (.cons (.nm 3) (.cons (.nm 4) .nil))) d ρ h) (bd := fun ρ h => exs Δ gl (L_worth_of_form_1 i j l) ρ h) ftm (fun a (t : Tm) => a + t.2 * mon t.1 p)
    (fun k b ρ h' => h' = h ∧ Sz (k * (TB B X + 1) + 1) b ∧ ∃ v3 v4 v5 v6, ρ = [some (ffm F), some (.tup (p.map fr)), some (fr b), v3, v4, v5, v6]) (fun _ _ _ _ _ => gsOk_nil _) F 0 0 [some (ffm F), some (.tup (p.map fr)), some (fr 0), none, none, none, none] h
    (fun k t b ρ h1 ea ⟨eh, sb, v3, v4, v5, v6, er⟩ => by
      subst eh er
      have ot := oF t (List.mem_of_getElem? ea)
      have hk : k < F.length := (List.getElem?_eq_some_iff.mp ea).1
      have st := tv_sz ot op hn
      have le := Nat.mul_le_mul_right (TB B X + 1) (show 0 + k + 2 ≤ F.length + 1 by omega)
      rw [Nat.add_mul] at le
      have ez : evi Δ gl (.zip (.var 3) (.var 1)) [some (ffm F), some (.tup (p.map fr)), some (fr b), some (.tup (t.1.map .int)), some (fr t.2), v5, v6] h1 = .ok ((t.1.zip p).map enc2, []) h1 := by
        rw [← pairs_enc]
        exact evi_zipT (by simp [ev]) (by simp [ev])
      have hz : (t.1.zip p).length ≤ 3 := by rw [List.length_zip, ot.len]; omega
      obtain ⟨ρ2, h2, e2, i2⟩ := for_inv (gs := []) (tg := fun d ρ h => asn Δ gl (.tup (.cons (.nm 5) (.cons (.nm 6) .nil))) d ρ h) (bd := fun ρ h => exs Δ gl (L_worth_of_form_0 i j) ρ h) enc2 (fun a (q : Int × Rat) => a * rz q.2 q.1)
        (fun k c ρ h' => h' = h1 ∧ Sz (B + k * (16 * X + 1)) c ∧ ∃ v5 v6, ρ = [some (ffm F), some (.tup (p.map fr)), some (fr b), some (.tup (t.1.map .int)), some (fr c), v5, v6]) (fun _ _ _ _ _ => gsOk_nil _) (t.1.zip p) 0 t.2
        [some (ffm F), some (.tup (p.map fr)), some (fr b), some (.tup (t.1.map .int)), some (fr t.2), v5, v6] h1
        (fun k q c ρ h2 ea ⟨eh, sc, v5, v6, er⟩ => by
          subst eh er
          obtain ⟨q0, q1, q2⟩ := zip_ok ot op ea
          have hk : k < (t.1.zip p).length := (List.getElem?_eq_some_iff.mp ea).1
          have le := Nat.mul_le_mul_right (16 * X + 1) (show 0 + k ≤ 2 by omega)
          have r := hr q.2 q.1 X h2 q2 q0 q1 (by omega)
          have m := hm c (rz q.2 q.1) _ _ h2 sc (rz_sz q2 q0 q1) (by omega)
          refine ⟨[some (ffm F), some (.tup (p.map fr)), some (fr b), some (.tup (t.1.map .int)), some (fr c), some (.int q.1), some (fr q.2)], h2, [some (ffm F), some (.tup (p.map fr)), some (fr b), some (.tup (t.1.map .int)), some (fr (c * rz q.2 q.1)), some (.int q.1), some (fr q.2)], h2, by simp [enc2, asn, asns, List.set], ?_, rfl, ?_, _, _, rfl⟩
          · simp [L_worth_of_form_0, exs, ex, ev, evs, r, m, asn, List.set, R.calm]
          · refine (sc.mul (rz_sz q2 q0 q1)).mono ?_
            rw [Nat.add_mul (0 + k) 1]
            omega) ⟨rfl, by simpa using ot.sz, v5, v6, rfl⟩
      obtain ⟨rfl, _, w5, w6, rfl⟩ := i2
      rw [fold_mon] at e2
      have m := ha b (t.2 * mon t.1 p) _ _ h2 sb st (by omega)
      refine ⟨[some (ffm F), some (.tup (p.map fr)), some (fr b), some (.tup (t.1.map .int)), some (fr t.2), v5, v6], h2, [some (ffm F), some (.tup (p.map fr)), some (fr (b + t.2 * mon t.1 p)), some (.tup (t.1.map .int)), some (fr (t.2 * mon t.1 p)), w5, w6], h2, by simp [ftm, asn, asns, List.set], ?_, rfl, ?_, _, _, _, _, rfl⟩
      · show exs Δ gl (L_worth_of_form_1 i j l) _ h2 = _
        unfold L_worth_of_form_1
        refine (exs_nx (ex_for (p := (t.1.zip p).map enc2) (gs := []) (h1 := h2) ez e2)).trans ?_
        simp [exs, ex, ev, evs, m, asn, List.set, R.calm]
      · refine (sb.add st).mono ?_
        rw [Nat.add_mul (0 + k) 1]
        omega) ⟨rfl, (show Sz 1 0 from ⟨bts (by decide), bts (by decide)⟩).mono (by omega), none, none, none, none, rfl⟩
  obtain ⟨rfl, _, v3, v4, v5, v6, rfl⟩ := i2
  rw [fold_fs] at e
  have key : exs Δ gl (B_worth_of_form k i j l) [some (ffm F), some (.tup (p.map fr)), none, none, none, none, none] h' = .ok (.rt (fr (fs p F))) h' := by
    unfold B_worth_of_form
    refine (exs_nx (ex_asg (d := fr 0) (h1 := h') (by simp [ev, h0]))).trans ?_
    refine (exs_nx (ex_for (p := F.map ftm) (gs := []) (h1 := h') (evi_plnT (by simp [ev, ffm])) e)).trans ?_
    refine exs_rt ?_
    have z : (0 : Rat) + fs p F = fs p F := by grind
    simp [ev, z]
  have r := run_rt (f := F_worth_of_form k i j l) (xs := [ffm F, .tup (p.map fr)]) rfl key
  rw [r]
  exact tidy_self (fr_flat _)
end
end HS

/-! Forms of several unknowns: gathering, growing. -/
namespace HS
open PySem L2
def L_form_with_0 (f_ratio_sum g_ZERO : Nat) : Ss :=
    (.cons (.dput (.var 1) (.var 2) (.call f_ratio_sum (.cons (.dget (.var 1) (.var 2) (.glb g_ZERO)) (.cons (.var 3) .nil)))) .nil)
def B_form_with (f_ratio_sum g_ZERO : Nat) : Ss :=
  (.cons (.asg (.nm 1) .dicT) 
  (.cons (.fr (.tup (.cons (.nm 2) (.cons (.nm 3) .nil))) (.pln (.var 0)) (L_form_with_0 f_ratio_sum g_ZERO)) 
  (.cons (.ret (.blt .tuple (.cons (.lc (.tup (.cons (.var 2) (.cons (.dix (.var 1) (.var 2)) .nil))) (.nm 2) (.pln (.blt .sorted (.cons (.var 1) .nil))) (.so (.cmp .NotEq (.dix (.var 1) (.var 2)) (.glb g_ZERO))) [2]) .nil))) .nil)))
def F_form_with (f_ratio_sum g_ZERO : Nat) : Df := ⟨1, 4, B_form_with f_ratio_sum g_ZERO⟩
def L_grown_form_0 (f_ratio_product : Nat) : Ss :=
    (.cons (.asg (.nm 5) (.idx (.var 3) (.var 1))) 
    (.cons (.ife (.cmp .Gt (.var 5) (.int 0)) (
      (.cons (.asg (.nm 6) (.bin .add (.bin .add (.slc (.var 3) .no (.so (.var 1))) (.tup (.cons (.bin .sub (.var 5) (.int 1)) .nil))) (.slc (.var 3) (.so (.bin .add (.var 1) (.int 1))) .no))) 
      (.cons (.exp (.app (.var 2) (.tup (.cons (.var 6) (.cons (.call f_ratio_product (.cons (.var 4) (.cons (.tup (.cons (.var 5) (.cons (.int 1) .nil))) .nil))) .nil))))) .nil))) (.nil)) .nil))
def B_grown_form (f_ratio_product f_form_with : Nat) : Ss :=
  (.cons (.asg (.nm 2) (.lst .nil)) 
  (.cons (.fr (.tup (.cons (.nm 3) (.cons (.nm 4) .nil))) (.pln (.var 0)) (L_grown_form_0 f_ratio_product)) 
  (.cons (.ret (.call f_form_with (.cons (.var 2) .nil))) .nil)))
def F_grown_form (f_ratio_product f_form_with : Nat) : Df := ⟨2, 7, B_grown_form f_ratio_product f_form_with⟩
def B_slopes_of (f_worth_of_form f_grown_form : Nat) : Ss :=
  (.cons (.asg (.nm 2) (.blt .range (.cons (.blt .len (.cons (.var 0) .nil)) .nil))) 
  (.cons (.ret (.blt .tuple (.cons (.lc (.blt .tuple (.cons (.lc (.call f_worth_of_form (.cons (.call f_grown_form (.cons (.var 4) (.cons (.var 3) .nil))) (.cons (.var 1) .nil))) (.nm 3) (.rgv (.var 2)) .no [3]) .nil)) (.nm 4) (.pln (.var 0)) .no [4]) .nil))) .nil))
def F_slopes_of (f_worth_of_form f_grown_form : Nat) : Df := ⟨2, 5, B_slopes_of f_worth_of_form f_grown_form⟩
def L_law_slope_0 (f__law_plus f__law_term_worth f__law_times : Nat) : Ss :=
    (.cons (.ife (.cmp .Gt (.idx (.var 4) (.var 2)) (.int 0)) (
      (.cons (.asg (.nm 6) (.bin .add (.bin .add (.slc (.var 4) .no (.so (.var 2))) (.tup (.cons (.bin .sub (.idx (.var 4) (.var 2)) (.int 1)) .nil))) (.slc (.var 4) (.so (.bin .add (.var 2) (.int 1))) .no))) 
      (.cons (.asg (.nm 3) (.call f__law_plus (.cons (.var 3) (.cons (.call f__law_term_worth (.cons (.tup (.cons (.var 6) (.cons (.call f__law_times (.cons (.var 5) (.cons (.tup (.cons (.idx (.var 4) (.var 2)) (.cons (.int 1) .nil))) .nil))) .nil))) (.cons (.var 1) .nil))) .nil)))) .nil))) (.nil)) .nil)
def B_law_slope (f__law_plus f__law_term_worth f__law_times : Nat) : Ss :=
  (.cons (.asg (.nm 3) (.tup (.cons (.int 0) (.cons (.int 1) .nil)))) 
  (.cons (.fr (.tup (.cons (.nm 4) (.cons (.nm 5) .nil))) (.pln (.var 0)) (L_law_slope_0 f__law_plus f__law_term_worth f__law_times)) 
  (.cons (.ret (.var 3)) .nil)))
def F_law_slope (f__law_plus f__law_term_worth f__law_times : Nat) : Df := ⟨3, 7, B_law_slope f__law_plus f__law_term_worth f__law_times⟩
def B_law_slopes (f__law_slope : Nat) : Ss :=
  (.cons (.ret (.blt .tuple (.cons (.lc (.blt .tuple (.cons (.lc (.call f__law_slope (.cons (.var 3) (.cons (.var 1) (.cons (.var 2) .nil)))) (.nm 2) (.rng (.cons (.blt .len (.cons (.var 0) .nil)) .nil)) .no [2]) .nil)) (.nm 3) (.pln (.var 0)) .no [3]) .nil))) .nil)
def F_law_slopes (f__law_slope : Nat) : Df := ⟨2, 4, B_law_slopes f__law_slope⟩
def L_law_gathered_0 (f__law_plus : Nat) : Ss :=
    (.cons (.asg (.nm 4) (.lc (.var 5) (.tup (.cons (.nm 5) (.cons (.nm 6) .nil))) (.enm (.var 1)) (.so (.cmp .Eq (.idx (.var 6) (.int 0)) (.var 2))) [5, 6])) 
    (.cons (.ife (.cmp .Eq (.var 4) (.lst .nil)) (
      (.cons (.exp (.app (.var 1) (.tup (.cons (.var 2) (.cons (.var 3) .nil))))) .nil)) (
      (.cons (.asg (.sub (.var 1) (.idx (.var 4) (.int 0))) (.tup (.cons (.var 2) (.cons (.call f__law_plus (.cons (.idx (.idx (.var 1) (.idx (.var 4) (.int 0))) (.int 1)) (.cons (.var 3) .nil))) .nil)))) .nil))) .nil))
def B_law_gathered (f__law_plus : Nat) : Ss :=
  (.cons (.asg (.nm 1) (.lst .nil)) 
  (.cons (.fr (.tup (.cons (.nm 2) (.cons (.nm 3) .nil))) (.pln (.var 0)) (L_law_gathered_0 f__law_plus)) 
  (.cons (.ret (.blt .tuple (.cons (.blt .sorted (.cons (.lc (.var 6) (.nm 6) (.pln (.var 1)) (.so (.cmp .NotEq (.idx (.idx (.var 6) (.int 1)) (.int 0)) (.int 0))) [6]) .nil)) .nil))) .nil)))
def F_law_gathered (f__law_plus : Nat) : Df := ⟨1, 7, B_law_gathered f__law_plus⟩
/-! ### likeness of tuples of ints -/
theorem eqvAll_ints : ∀ a b : List Int, PyData.eqvAll (a.map .int) (b.map .int) = decide (a = b)
  | [], [] => by simp [PyData.eqvAll]
  | [], _ :: _ => by simp [PyData.eqvAll]
  | _ :: _, [] => by simp [PyData.eqvAll]
  | x :: a, y :: b => by
    have := eqvAll_ints a b
    simp only [List.map_cons, PyData.eqvAll, PyData.eqv, this]
    by_cases h : x = y
    · simp [h]
    · simp [h]
theorem shaped_tupI (l : List Int) : SeqAt.shaped (.tuple (l.map .int)) = true := by
  have d := PySem.W.depth_ints l
  simp [SeqAt.shaped, PyData.canLay0, canLay_ints, PyData.depth, d]
theorem deep_tup {h : Hh} (a : List Int) : (D.tup (a.map .int)).deep h = some (.tuple (a.map .int)) := by
  unfold D.deep
  simp [D.deepW, deeps_ints]
theorem eqD_ints (h : Hh) (a b : List Int) : eqD h (.tup (a.map .int)) (.tup (b.map .int)) = some (decide (a = b)) := by
  have e1 := deep_tup (h := h) a
  have e2 := deep_tup (h := h) b
  have e : eqD h (.tup (a.map .int)) (.tup (b.map .int)) = (match (D.tup (a.map .int)).deep h, (D.tup (b.map .int)).deep h with | some a, some b => if SeqAt.shaped a = true ∧ SeqAt.shaped b = true then some (PyData.eqv a b) else lenNe h (.tup (List.map .int [])) (.tup []) | _, _ => lenNe h (.tup []) (.tup [])) := rfl
  rw [e, e1, e2]
  have s1 : ∀ l : List Int, SeqAt.shaped (.tuple (l.map .int)) = true := shaped_tupI
  show (if SeqAt.shaped _ = true ∧ SeqAt.shaped _ = true then _ else _) = _
  rw [if_pos ⟨s1 a, s1 b⟩]
  simp [PyData.eqv, eqvAll_ints]
theorem eqD_fr (h : Hh) (a b : Rat) : eqD h (fr a) (fr b) = some (decide (a = b)) := by
  have := eqD_ints h [a.num, a.den] [b.num, b.den]
  have e : eqD h (fr a) (fr b) = some (decide ([a.num, (a.den : Int)] = [b.num, (b.den : Int)])) := this
  rw [e]
  congr 1
  by_cases h : a = b
  · subst h; simp
  · rw [decide_eq_false h]
    refine decide_eq_false fun z => h ?_
    injection z with z1 z2
    injection z2 with z2 _
    exact Rat.ext z1 (by omega)
theorem intsOf_k (ks : List Int) : intsOf (ks.map D.int) = some ks := intsOf_ints ks
theorem lc_fm {gs : Gs} {el : D → Hh → R (Option D)} {h : Hh} (hg : gsOk gs h) (g : D → Option D) : ∀ (ds acc : List D), (∀ d ∈ ds, el d h = .ok (g d) h) → acc.length + ds.length < sizeLine → lcL gs el ds acc h = alloc (.lst (acc ++ ds.filterMap g)) h
  | [], acc, _, hl => by
    simp at hl
    simp [lcL, hg, Nat.le_of_lt hl]
  | d :: ds, acc, hel, hl => by
    simp only [List.length_cons] at hl
    unfold lcL
    rw [if_pos ⟨hg, by omega⟩, hel d (by simp), R.bind_ok]
    have ih := fun acc => lc_fm (el := el) hg g ds acc (fun x hx => hel x (List.mem_cons_of_mem _ hx))
    cases e : g d with
    | none => simp only [ih acc (by omega), List.filterMap_cons, e]
    | some y =>
      simp only [ih (acc ++ [y]) (by simp; omega), List.filterMap_cons, e]
      simp

/-! ### the dict of sums -/
def kv (r : Tm) : List Int × D := (r.1, fr r.2)
theorem find_kv (k : List Int) : ∀ rs : List Tm, findD (rs.map kv) k = (findR rs k).map fr
  | [] => rfl
  | r :: rs => by
    rw [findR_cons, List.map_cons]
    by_cases h : r.1 = k
    · have e : findD (kv r :: rs.map kv) k = some (fr r.2) := by unfold findD; rw [List.find?_cons]; simp [kv, h]
      rw [e, if_pos h]; rfl
    · have e : findD (kv r :: rs.map kv) k = findD (rs.map kv) k := by unfold findD; rw [List.find?_cons, decide_eq_false (show ¬ (kv r).1 = k from h)]
      rw [e, if_neg h]; exact find_kv k rs
theorem put_kv {rs : List Tm} (nd : (rs.map (·.1)).Nodup) (t : Tm) : putKD (rs.map kv) t.1 (fr ((findR rs t.1).getD 0 + t.2)) = (accR rs t).map kv := by
  unfold putKD accR
  rw [find_kv, Option.isSome_map]
  cases e : findR rs t.1 with
  | none =>
    have z : (0 : Rat) + t.2 = t.2 := by grind
    simp [kv, z]
  | some v =>
    simp only [Option.isSome_some, if_true, Option.getD_some, List.map_map]
    refine List.map_congr_left fun r m => ?_
    show (if (kv r).1 = t.1 then ((kv r).1, fr (v + t.2)) else kv r) = kv (if r.1 = t.1 then (r.1, r.2 + t.2) else r)
    by_cases h : r.1 = t.1
    · have f := findR_mem nd m
      rw [h, e] at f
      have f := Option.some.inj f
      rw [if_pos h, if_pos (show (kv r).1 = t.1 from h), f]
      rfl
    · rw [if_neg h, if_neg (show ¬ (kv r).1 = t.1 from h)]
theorem acc_ok {n B C : Nat} {rs : List Tm} {t : Tm} (h : ∀ r ∈ rs, OkT n B r) (ot : OkT n C t) (le : C ≤ B + C + 1) : ∀ r ∈ accR rs t, OkT n (B + C + 1) r := by
  intro r m
  unfold accR at m
  split at m
  · obtain ⟨x, hx, rfl⟩ := List.mem_map.mp m
    have o := h x hx
    split
    · exact ⟨o.len, o.pos, o.sz.add ot.sz⟩
    · exact ⟨o.len, o.pos, o.sz.mono (by omega)⟩
  · rcases List.mem_append.mp m with m | m
    · have o := h r m
      exact ⟨o.len, o.pos, o.sz.mono (by omega)⟩
    · rw [List.mem_singleton.mp m]
      exact ⟨ot.len, ot.pos, ot.sz.mono (by omega)⟩
theorem acc_len (rs : List Tm) (t : Tm) : (accR rs t).length ≤ rs.length + 1 := by
  unfold accR
  split
  · rw [List.length_map]; omega
  · simp
theorem fold_len : ∀ (ts rs : List Tm), (ts.foldl accR rs).length ≤ rs.length + ts.length
  | [], rs => by simp
  | t :: ts, rs => by
    rw [List.foldl_cons, List.length_cons]
    have := fold_len ts (accR rs t)
    have := acc_len rs t
    omega
theorem fold_ok {n B : Nat} : ∀ (ts rs : List Tm) (k : Nat), (∀ t ∈ ts, OkT n B t) → (∀ r ∈ rs, OkT n (k * (B + 1) + 1) r) → ∀ r ∈ ts.foldl accR rs, OkT n ((k + ts.length) * (B + 1) + 1) r
  | [], rs, k, _, h => h
  | t :: ts, rs, k, h1, h2 => by
    have a := acc_ok h2 (h1 t List.mem_cons_self) (by omega)
    have := fold_ok ts (accR rs t) (k + 1) (fun x m => h1 x (List.mem_cons_of_mem _ m)) (fun r m => by
      have o := a r m
      refine ⟨o.len, o.pos, o.sz.mono ?_⟩
      rw [Nat.add_mul k 1]
      omega)
    rw [show k + 1 + ts.length = k + (t :: ts).length by rw [List.length_cons]; omega] at this
    exact this
theorem gat_ok {n B : Nat} {ts : List Tm} (h : ∀ t ∈ ts, OkT n B t) : ∀ r ∈ gat ts, OkT n (ts.length * (B + 1) + 1) r := by
  have := fold_ok ts [] 0 h (fun r m => nomatch m)
  rw [Nat.zero_add] at this
  exact this
theorem fw_ok {n B : Nat} {ts : List Tm} (h : ∀ t ∈ ts, OkT n B t) : ∀ r ∈ fw ts, OkT n (ts.length * (B + 1) + 1) r := fun r m => gat_ok h r (List.mem_filter.mp ((fw_perm ts).mem_iff.mp m)).1
theorem fw_len (ts : List Tm) : (fw ts).length ≤ ts.length := by
  rw [(fw_perm ts).length_eq]
  have := fold_len ts []
  have := List.length_filter_le nz (gat ts)
  unfold gat at *
  simp at *
  omega
theorem fw_nz (ts : List Tm) : ∀ r ∈ fw ts, r.2 ≠ 0 := fun r m => by
  have := (List.mem_filter.mp ((fw_perm ts).mem_iff.mp m)).2
  unfold nz at this
  exact of_decide_eq_true this
end HS

/-! Forms of several unknowns: gathering by a dict. -/
namespace HS
open PySem L2
theorem lc_fmE {α : Type} {gs : Gs} {el : D → Hh → R (Option D)} {h : Hh} (hg : gsOk gs h) (enc : α → D) (g : α → Option D) : ∀ (ds : List α) (acc : List D), (∀ d ∈ ds, el (enc d) h = .ok (g d) h) → acc.length + ds.length < sizeLine → lcL gs el (ds.map enc) acc h = alloc (.lst (acc ++ ds.filterMap g)) h
  | [], acc, _, hl => by
    simp at hl
    simp [lcL, hg, Nat.le_of_lt hl]
  | d :: ds, acc, hel, hl => by
    simp only [List.length_cons] at hl
    rw [List.map_cons]
    unfold lcL
    rw [if_pos ⟨hg, by omega⟩, hel d (by simp), R.bind_ok]
    have ih := fun acc => lc_fmE (el := el) hg enc g ds acc (fun x hx => hel x (List.mem_cons_of_mem _ hx))
    cases e : g d with
    | none => simp only [ih acc (by omega), List.filterMap_cons, e]
    | some y =>
      simp only [ih (acc ++ [y]) (by simp; omega), List.filterMap_cons, e]
      simp
theorem fm_fw (v : List Int → Rat) : ∀ ks : List (List Int), ks.filterMap (fun k => if v k = 0 then none else some (ftm (k, v k))) = ((ks.map fun k => (k, v k)).filter nz).map ftm
  | [] => rfl
  | k :: ks => by
    rw [List.filterMap_cons, List.map_cons, List.filter_cons, fm_fw v ks]
    by_cases h : v k = 0
    · simp [h, nz]
    · simp [h, nz]
def S_formW (f : Fn) : Prop := ∀ (n B : Nat) (ts : List Tm) (m : Nat) h, h[m]? = some (.lst (ts.map ftm)) → (∀ t ∈ ts, OkT n B t) → 1 ≤ n → ts.length ≤ 60 → (ts.length + 1) * (B + 1) + B + 20 ≤ 8999 → f [.ref m] h = .ok (ffm (fw ts)) h
theorem set_end2 {h : Hh} {x y : C} : (h ++ [x]).set h.length y = h ++ [y] := by
  rw [List.set_append_right _ _ (Nat.le_refl _)]
  simp
theorem ffm_flat (F : List Tm) : (ffm F).flat = true := by
  unfold ffm
  simp only [D.flat]
  rw [D.flats_iff]
  intro d m
  obtain ⟨t, _, rfl⟩ := List.mem_map.mp m
  exact ftm_flat t
section
variable {Δ : Nat → Fn} {gl : Nat → D}
theorem ne_fr (h : Hh) (a b : Rat) : cmpD .NotEq (fr a) (fr b) h = .ok (.bl (!decide (a = b))) h := by
  have e : cmpD .NotEq (fr a) (fr b) h = (match eqD h (fr a) (fr b) with | some b => .ok (.bl (!b)) h | none => .bad) := rfl
  rw [e, eqD_fr]
theorem dget_kv {h : Hh} {d : Nat} {rs : List Tm} (g : h[d]? = some (.dit (rs.map kv))) (ks : List Int) : dgetD (.ref d) (.tup (ks.map .int)) (fr 0) h = .ok (fr ((findR rs ks).getD 0)) h := by
  simp only [dgetD, ditAt, g, keyD, intsOf_k, find_kv]
  cases findR rs ks <;> rfl
theorem dix_kv {h : Hh} {d : Nat} {rs : List Tm} (g : h[d]? = some (.dit (rs.map kv))) {ks : List Int} (hk : ks ∈ rs.map (·.1)) : dixD (.ref d) (.tup (ks.map .int)) h = .ok (fr ((findR rs ks).getD 0)) h := by
  have q : (findR rs ks) ≠ none := fun z => findR_none.mp z hk
  simp only [dixD, ditAt, g, keyD, intsOf_k, find_kv]
  cases e : findR rs ks with
  | none => exact absurd e q
  | some v => rfl
theorem form_turn {i z : Nat} (h0 : gl z = fr 0) (ha : S_op (· + ·) (Δ i)) {n B k : Nat} {rs : List Tm} {t : Tm} {h : Hh} (v0 : Option D) (nd : (rs.map (·.1)).Nodup) (o : ∀ r ∈ rs, OkT n (k * (B + 1) + 1) r) (ot : OkT n B t) (hl : rs.length < 1000) (hB : (k + 1) * (B + 1) + B + 20 ≤ 8999) :
    exs Δ gl (L_form_with_0 i z) [v0, some (.ref h.length), some (.tup (t.1.map .int)), some (fr t.2)] (h ++ [.dit (rs.map kv)]) = .ok (.nx [v0, some (.ref h.length), some (.tup (t.1.map .int)), some (fr t.2)]) (h ++ [.dit ((accR rs t).map kv)]) := by
  have g : (h ++ [C.dit (rs.map kv)])[h.length]? = some (.dit (rs.map kv)) := get_end
  have s0 : Sz (k * (B + 1) + 1) ((findR rs t.1).getD 0) := by
    cases e : findR rs t.1 with
    | none => exact (show Sz 1 0 from ⟨bts (by decide), bts (by decide)⟩).mono (by omega)
    | some v =>
      unfold findR at e
      obtain ⟨r, hr, e2⟩ := Option.map_eq_some_iff.mp e
      have := o r (List.mem_of_find?_eq_some hr)
      rw [Option.getD_some, ← e2]
      exact this.sz
  rw [Nat.add_mul k 1] at hB
  have a := ha _ t.2 _ _ (h ++ [C.dit (rs.map kv)]) s0 ot.sz (by omega)
  have e1 : ev Δ gl (.call i (.cons (.dget (.var 1) (.var 2) (.glb z)) (.cons (.var 3) .nil))) [v0, some (.ref h.length), some (.tup (t.1.map .int)), some (fr t.2)] (h ++ [.dit (rs.map kv)]) = .ok (fr ((findR rs t.1).getD 0 + t.2)) (h ++ [.dit (rs.map kv)]) := by
    have gi : isDit (.ref h.length) (h ++ [C.dit (rs.map kv)]) = true := by simp only [isDit, ditAt, g]; rfl
    simp only [ev, evs, List.getElem?_cons_zero, List.getElem?_cons_succ, R.bind_ok, gi, if_true, h0, dget_kv g, a]
  have sl : (rs.map kv).length < sizeLine := by rw [List.length_map]; exact Nat.lt_of_lt_of_le hl (by decide)
  have e2 : ex Δ gl (.dput (.var 1) (.var 2) (.call i (.cons (.dget (.var 1) (.var 2) (.glb z)) (.cons (.var 3) .nil)))) [v0, some (.ref h.length), some (.tup (t.1.map .int)), some (fr t.2)] (h ++ [.dit (rs.map kv)]) =
      .ok (.nx [v0, some (.ref h.length), some (.tup (t.1.map .int)), some (fr t.2)]) (h ++ [.dit ((accR rs t).map kv)]) := by
    rw [ex, e1, R.toF_ok]
    have d1 : dputD (.ref h.length) (.tup (t.1.map .int)) (fr ((findR rs t.1).getD 0 + t.2)) (h ++ [.dit (rs.map kv)]) = .ok () (h ++ [.dit ((accR rs t).map kv)]) := by
      simp only [dputD, g, keyD, intsOf_k]
      rw [if_pos sl, put_kv nd, set_end2]
    simp only [ev, List.getElem?_cons_zero, List.getElem?_cons_succ, R.toF_ok, d1, R.calm_ok]
  unfold L_form_with_0
  rw [exs, e2, R.bind_ok]
  simp only [exs]
set_option maxHeartbeats 1000000 in
theorem s_form_with {i z : Nat} (h0 : gl z = fr 0) (ha : S_op (· + ·) (Δ i)) : S_formW (run Δ gl (F_form_with i z)) := by
  intro n B ts m h hm ot hn hl hB
  have lm : m < h.length := (List.getElem?_eq_some_iff.mp hm).1
  have keep : ∀ t : Hh, (h ++ t)[m]? = some (.lst (ts.map ftm)) := fun t => by rw [List.getElem?_append_left lm]; exact hm
  obtain ⟨ρ', h', e, i2⟩ := for_inv (gs := [(m, ts.map ftm)]) (tg := fun d ρ h => asn Δ gl (.tup (.cons (.nm 2) (.cons (.nm 3) .nil))) d ρ h) (bd := fun ρ h => exs Δ gl (L_form_with_0 i z) ρ h) ftm accR
    (fun k rs ρ h' => h' = h ++ [.dit (rs.map kv)] ∧ (rs.map (·.1)).Nodup ∧ (∀ r ∈ rs, OkT n (k * (B + 1) + 1) r) ∧ rs.length ≤ k ∧ ∃ v2 v3, ρ = [some (.ref m), some (.ref h.length), v2, v3])
    (fun k rs ρ h' ⟨eh, _⟩ p hp => by
      rw [List.mem_singleton.mp hp, eh]
      simp only [listAt, keep]) ts 0 [] [some (.ref m), some (.ref h.length), none, none] (h ++ [.dit []])
    (fun k t rs ρ h1 ea ⟨eh, nd, o, ln, v2, v3, er⟩ => by
      subst eh er
      have ot1 := ot t (List.mem_of_getElem? ea)
      have hk : k < ts.length := (List.getElem?_eq_some_iff.mp ea).1
      have le := Nat.mul_le_mul_right (B + 1) (show 0 + k + 1 ≤ ts.length + 1 by omega)
      refine ⟨[some (.ref m), some (.ref h.length), some (.tup (t.1.map .int)), some (fr t.2)], _, [some (.ref m), some (.ref h.length), some (.tup (t.1.map .int)), some (fr t.2)], _, by simp [ftm, asn, asns, List.set], form_turn h0 ha (some (.ref m)) nd o ot1 (by omega) (by omega), rfl, acc_nodup nd t, fun r hr => ?_, ?_, _, _, rfl⟩
      · have q := acc_ok o ot1 (by omega) r hr
        refine ⟨q.len, q.pos, q.sz.mono ?_⟩
        rw [Nat.add_mul (0 + k) 1]
        omega
      · have := acc_len rs t
        omega) ⟨rfl, by simp, (by intro r m; cases m), Nat.le_refl _, none, none, rfl⟩
  obtain ⟨rfl, nd, o, ln, v2, v3, rfl⟩ := i2
  have eg : ts.foldl accR [] = gat ts := rfl
  rw [eg] at e nd o ln
  generalize hgt : gat ts = rs at e nd o ln
  have ok := gat_ok ot
  rw [hgt] at ok
  -- sorted keys
  have g : ∀ t : Hh, (h ++ [C.dit (rs.map kv)] ++ t)[h.length]? = some (.dit (rs.map kv)) := fun t => by
    rw [List.append_assoc, List.getElem?_append_right (Nat.le_refl _)]
    simp
  have kn : ((rs.map kv).all fun p => !p.1.isEmpty) = true := by
    rw [List.all_eq_true]
    intro p hp
    obtain ⟨r, hr, rfl⟩ := List.mem_map.mp hp
    have := (ok r hr).len
    cases e1 : r.1 with
    | nil => rw [e1] at this; simp at this; omega
    | cons a b => simp [kv, e1]
  have mk : (rs.map kv).map (·.1) = rs.map (·.1) := by rw [List.map_map]; rfl
  have es : ev Δ gl (.blt .sorted (.cons (.var 1) .nil)) [some (.ref m), some (.ref h.length), v2, v3] (h ++ [.dit (rs.map kv)]) = alloc (.lst ((sortK (rs.map (·.1))).map fun k => .tup (k.map .int))) (h ++ [.dit (rs.map kv)]) := by
    have g0 := g []
    rw [List.append_nil] at g0
    simp only [ev, evs, List.getElem?_cons_zero, List.getElem?_cons_succ, R.bind_ok]
    show blt2 .sorted [.ref h.length] _ = _
    simp only [blt2, g0, kn, if_true, mk]
  generalize hks : (sortK (rs.map (·.1))).map (fun k => D.tup (k.map .int)) = kd at es
  have h2eq : (h ++ [C.dit (rs.map kv)]).length = h.length + 1 := by simp
  have ei : evi Δ gl (.pln (.blt .sorted (.cons (.var 1) .nil))) [some (.ref m), some (.ref h.length), v2, v3] (h ++ [.dit (rs.map kv)]) = .ok (kd, [(h.length + 1, kd)]) (h ++ [.dit (rs.map kv)] ++ [.lst kd]) := by
    rw [evi, es, alloc, R.bind_ok, itemsD]
    have : listAt (h ++ [C.dit (rs.map kv)] ++ [.lst kd]) (h ++ [C.dit (rs.map kv)]).length = some kd := by simp only [listAt, get_end]
    rw [this, h2eq]
  have kmem : ∀ k ∈ sortK (rs.map (·.1)), k ∈ rs.map (·.1) := fun k hk => (sortK_perm _).mem_iff.mp hk
  have elc : ∀ k ∈ sortK (rs.map (·.1)), ((asn Δ gl (.nm 2) (.tup (k.map .int)) (wipeD [some (.ref m), some (.ref h.length), v2, v3] [2]) (h ++ [.dit (rs.map kv)] ++ [.lst kd])).bind fun ρ1 h => (evt Δ gl (.so (.cmp .NotEq (.dix (.var 1) (.var 2)) (.glb z))) ρ1 h).bind fun b h =>
      if b = true then (ev Δ gl (.tup (.cons (.var 2) (.cons (.dix (.var 1) (.var 2)) .nil))) ρ1 h).bind fun y h => .ok (some y) h else .ok none h).calm = .ok (if (findR rs k).getD 0 = 0 then none else some (ftm (k, (findR rs k).getD 0))) (h ++ [.dit (rs.map kv)] ++ [.lst kd]) := fun k hk => by
    have dx := dix_kv (g [.lst kd]) (kmem k hk)
    simp only [asn, wipeD, List.set, R.bind_ok, evt, ev, evs, List.getElem?_cons_zero, List.getElem?_cons_succ, dx, h0, ne_fr, asBl]
    by_cases z0 : (findR rs k).getD 0 = 0
    · simp only [z0, decide_true, Bool.not_true, Bool.false_eq_true, if_false, if_true, R.calm_ok]
    · simp only [z0, decide_false, Bool.not_false, if_true, if_false]
      simp [lineOk, sizeLine, ftm]
  have sk : (sortK (rs.map (·.1))).length ≤ 60 := by
    rw [(sortK_perm _).length_eq, List.length_map]
    omega
  have g2 : gsOk [(h.length + 1, kd)] (h ++ [C.dit (rs.map kv)] ++ [.lst kd]) := fun p hp => by
    rw [List.mem_singleton.mp hp, ← h2eq]
    simp only [listAt, get_end]
  subst hks
  have el : ev Δ gl (.lc (.tup (.cons (.var 2) (.cons (.dix (.var 1) (.var 2)) .nil))) (.nm 2) (.pln (.blt .sorted (.cons (.var 1) .nil))) (.so (.cmp .NotEq (.dix (.var 1) (.var 2)) (.glb z))) [2]) [some (.ref m), some (.ref h.length), v2, v3] (h ++ [.dit (rs.map kv)]) =
      alloc (.lst ((fw ts).map ftm)) (h ++ [.dit (rs.map kv)] ++ [.lst ((sortK (rs.map (·.1))).map (fun k => D.tup (k.map .int)))]) := by
    rw [ev_lc ei]
    refine (lc_fmE g2 (fun k : List Int => D.tup (k.map .int)) (fun k => if (findR rs k).getD 0 = 0 then none else some (ftm (k, (findR rs k).getD 0))) _ [] (fun k hk => elc k hk) ?_).trans ?_
    · have : (60 : Nat) < sizeLine := by decide
      simp only [List.length_nil, Nat.zero_add]
      omega
    · rw [List.nil_append]
      congr 2
      unfold fw
      rw [hgt]
      exact fm_fw _ _
  have key : exs Δ gl (B_form_with i z) [some (.ref m), none, none, none] h = .ok (.rt (ffm (fw ts))) (h ++ ([.dit (rs.map kv)] ++ [.lst ((sortK (rs.map (·.1))).map (fun k => D.tup (k.map .int)))] ++ [.lst ((fw ts).map ftm)])) := by
    unfold B_form_with
    refine (exs_nx (ex_asg (d := .ref h.length) (h1 := h ++ [.dit []]) (by simp [ev, alloc]))).trans ?_
    refine (exs_nx (ex_for (p := ts.map ftm) (gs := [(m, ts.map ftm)]) (h1 := h ++ [.dit []]) ?_ e)).trans ?_
    · rw [evi]
      simp only [ev, List.set, List.getElem?_cons_zero, R.bind_ok, itemsD, listAt, keep]
    refine exs_rt ?_
    rw [ev, evs, el, alloc, R.bind_ok]
    simp only [evs, R.bind_ok, bltD, listAt, get_end]
    simp [ffm]
  have r := run_rt (f := F_form_with i z) (xs := [.ref m]) rfl key
  rw [r]
  exact tidy_pre (ffm_flat _)
end
end HS

/-! Forms of several unknowns: the law's own gathering. -/
namespace HS
open PySem L2
theorem at_mid {h tl : Hh} {x : C} : (h ++ x :: tl)[h.length]? = some x := by simp
theorem set_mid {h tl : Hh} {x y : C} : (h ++ x :: tl).set h.length y = h ++ y :: tl := by simp
theorem mid_app {h tl t : Hh} {x : C} : (h ++ x :: tl) ++ t = h ++ x :: (tl ++ t) := by simp
theorem deep_ftm (rd : Nat → Option PyData) (t : Tm) : (ftm t).deepW rd = some (encP t) := by
  simp [ftm, encP, D.deepW, D.deepsW, deeps_ints, deeps_fr]
theorem deeps_ftm (rd : Nat → Option PyData) : ∀ L : List Tm, D.deepsW rd (L.map ftm) = some (L.map encP)
  | [] => by simp [D.deepsW]
  | t :: L => by
    rw [List.map_cons, D.deepsW, deep_ftm, deeps_ftm rd L]
    rfl
theorem alike_encP (a b : Tm) : PySem.W.alike (encP a) (encP b) = true := by
  have e1 : PySem.W.alike (.tuple (a.1.map .int)) (.tuple (b.1.map .int)) = true := by rw [PySem.W.alike]; exact PySem.W.alike_ints _ _
  have e2 : PySem.W.alike (.tuple [.int a.2.num, .int a.2.den]) (.tuple [.int b.2.num, .int b.2.den]) = true := by
    have := PySem.W.alike_ints [a.2.num, a.2.den] [b.2.num, b.2.den]
    rw [PySem.W.alike]; exact this
  unfold encP
  rw [PySem.W.alike, PySem.W.alikeAll, e1, PySem.W.alikeAll, e2, PySem.W.alikeAll]
  rfl
theorem depth_encP (a : Tm) : (encP a).depth ≤ 60 := by
  have := PySem.W.depth_ints a.1
  have h2 := PySem.W.depth_ints [a.2.num, a.2.den]
  simp only [List.map_cons, List.map_nil] at h2
  unfold encP
  simp only [PyData.depth, PyData.depthAll, this, h2]
  omega
theorem sortD_ftm (h : Hh) (L : List Tm) (hl : L.length ≤ 1000) : sortD h (L.map ftm) = some ((L.mergeSort (PySem.W.dataLe false encP)).map ftm) := by
  unfold sortD
  rw [deeps_ftm]
  have c1 : ((L.map encP).all fun d => (L.map encP).all fun e => PySem.W.alike d e) = true := by
    rw [List.all_eq_true]
    intro d hd
    rw [List.all_eq_true]
    intro e he
    obtain ⟨a, _, rfl⟩ := List.mem_map.mp hd
    obtain ⟨b, _, rfl⟩ := List.mem_map.mp he
    exact alike_encP a b
  have c2 : ((L.map encP).all fun d => match d with | .tuple (_ :: _) => true | _ => false) = true := by
    rw [List.all_eq_true]
    intro d hd
    obtain ⟨a, _, rfl⟩ := List.mem_map.mp hd
    rfl
  have c3 : ((L.map encP).all fun d => decide (d.depth ≤ 60)) = true := by
    rw [List.all_eq_true]
    intro d hd
    obtain ⟨a, _, rfl⟩ := List.mem_map.mp hd
    exact decide_eq_true (depth_encP a)
  have c4 : lineOk (L.map ftm).length = true := by
    unfold lineOk
    rw [List.length_map]
    exact decide_eq_true (Nat.le_trans hl (by decide))
  dsimp only
  rw [if_pos ⟨c1, c2, c3, c4⟩]
  congr 1
  refine (List.map_mergeSort (r := PySem.W.dataLe false encP) (s := PySem.W.dataLe false fun d : D => (d.deep h).getD .none) (f := ftm) (l := L) fun a _ b _ => ?_).symm
  have d1 : (ftm a).deep h = some (encP a) := deep_ftm _ a
  have d2 : (ftm b).deep h = some (encP b) := deep_ftm _ b
  show (!PySem.W.dataLt (encP b) (encP a)) = (!PySem.W.dataLt (((ftm b).deep h).getD .none) (((ftm a).deep h).getD .none))
  rw [d1, d2]
  rfl
/-- where a term of these powers stands -/
def spotG (k : List Int) (q : Tm × Nat) : Option D := if q.1.1 = k then some (.int (q.2 : Nat)) else none
theorem spots_at (k : List Int) : ∀ (rs : List Tm) (n : Nat), (rs.map (·.1)).Nodup →
    (findR rs k = none ∧ (rs.zipIdx n).filterMap (spotG k) = []) ∨
      ∃ i v, rs[i]? = some (k, v) ∧ findR rs k = some v ∧ (rs.zipIdx n).filterMap (spotG k) = [.int ((n + i : Nat) : Int)] ∧ ∀ q : Rat, (rs.map fun r => if r.1 = k then (r.1, r.2 + q) else r) = rs.set i (k, v + q)
  | [], n, _ => .inl ⟨rfl, rfl⟩
  | r :: rs, n, nd => by
    rw [List.map_cons, List.nodup_cons] at nd
    have ih := spots_at k rs (n + 1) nd.2
    rw [findR_cons, List.zipIdx_cons, List.filterMap_cons]
    by_cases h : r.1 = k
    · refine .inr ⟨0, r.2, by rw [← h]; rfl, by rw [if_pos h], ?_, fun q => ?_⟩
      · have none' : findR rs k = none := findR_none.mpr (by rw [← h]; exact nd.1)
        rcases ih with ⟨_, e⟩ | ⟨i, v, e, e2, _⟩
        · simp only [spotG, h, if_true, Nat.add_zero]
          rw [show (rs.zipIdx (n + 1)).filterMap (spotG k) = [] from e]
        · rw [none'] at e2; cases e2
      · have none' : k ∉ rs.map (·.1) := by rw [← h]; exact nd.1
        rw [List.map_cons, if_pos h, List.set_cons_zero, h]
        congr 1
        have : ∀ x ∈ rs, (fun r : Tm => if r.1 = k then (r.1, r.2 + q) else r) x = x := fun x m => by
          show (if x.1 = k then (x.1, x.2 + q) else x) = x
          rw [if_neg fun z => none' (by rw [← z]; exact List.mem_map.mpr ⟨x, m, rfl⟩)]
        rw [List.map_congr_left this, List.map_id']
    · have sg : spotG k (r, n) = none := by simp [spotG, h]
      rw [if_neg h, sg]
      rcases ih with ⟨e1, e2⟩ | ⟨i, v, e1, e2, e3, e4⟩
      · exact .inl ⟨e1, e2⟩
      · refine .inr ⟨i + 1, v, by simpa using e1, e2, ?_, fun q => ?_⟩
        · rw [e3, show n + 1 + i = n + (i + 1) by omega]
        · rw [List.map_cons, if_neg h, List.set_cons_succ, e4]
theorem numbered_ftm (rs : List Tm) : numbered (rs.map ftm) = (rs.zipIdx).map fun q => D.tup [.int (q.2 : Nat), ftm q.1] := by
  unfold numbered
  rw [List.zipIdx_map, List.map_map]
  rfl
theorem fm_filter : ∀ L : List Tm, L.filterMap (fun t => if nz t = true then some (ftm t) else none) = (L.filter nz).map ftm
  | [] => rfl
  | t :: L => by
    rw [List.filterMap_cons, List.filter_cons, fm_filter L]
    cases nz t <;> simp
section
variable {Δ : Nat → Fn} {gl : Nat → D}
set_option maxHeartbeats 1000000 in
theorem gath_turn {i : Nat} (ha : S_op (· + ·) (Δ i)) {n B k : Nat} {rs : List Tm} {t : Tm} {h tl : Hh} (v0 v4 v5 v6 : Option D) (nd : (rs.map (·.1)).Nodup) (o : ∀ r ∈ rs, OkT n (k * (B + 1) + 1) r) (ot : OkT n B t) (hl : rs.length < 1000) (hB : (k + 1) * (B + 1) + B + 20 ≤ 8999) :
    ∃ tl' v4' v5' v6', exs Δ gl (L_law_gathered_0 i) [v0, some (.ref h.length), some (.tup (t.1.map .int)), some (fr t.2), v4, v5, v6] (h ++ .lst (rs.map ftm) :: tl) =
      .ok (.nx [v0, some (.ref h.length), some (.tup (t.1.map .int)), some (fr t.2), v4', v5', v6']) (h ++ .lst ((accR rs t).map ftm) :: tl') := by
  rw [Nat.add_mul k 1] at hB
  have g : ∀ tl : Hh, (h ++ C.lst (rs.map ftm) :: tl)[h.length]? = some (.lst (rs.map ftm)) := fun tl => at_mid
  have ei : evi Δ gl (.enm (.var 1)) [v0, some (.ref h.length), some (.tup (t.1.map .int)), some (fr t.2), v4, v5, v6] (h ++ .lst (rs.map ftm) :: tl) = .ok ((rs.zipIdx).map (fun q => D.tup [.int (q.2 : Nat), ftm q.1]), [(h.length, rs.map ftm)]) (h ++ .lst (rs.map ftm) :: tl) := by
    rw [← numbered_ftm]
    simp only [evi, ev, List.getElem?_cons_zero, List.getElem?_cons_succ, R.bind_ok, itemsD, listAt, g]
  have es : ev Δ gl (.lc (.var 5) (.tup (.cons (.nm 5) (.cons (.nm 6) .nil))) (.enm (.var 1)) (.so (.cmp .Eq (.idx (.var 6) (.int 0)) (.var 2))) [5, 6]) [v0, some (.ref h.length), some (.tup (t.1.map .int)), some (fr t.2), v4, v5, v6] (h ++ .lst (rs.map ftm) :: tl) =
      alloc (.lst ((rs.zipIdx).filterMap (spotG t.1))) (h ++ .lst (rs.map ftm) :: tl) := by
    rw [ev_lc ei]
    have hg : gsOk [(h.length, rs.map ftm)] (h ++ C.lst (rs.map ftm) :: tl) := fun p hp => by
      rw [List.mem_singleton.mp hp]
      simp only [listAt, g]
    refine (lc_fmE hg (fun q : Tm × Nat => D.tup [.int (q.2 : Nat), ftm q.1]) (spotG t.1) _ [] (fun q hq => ?_) ?_).trans ?_
    · have ec : ∀ h, cmpD .Eq (.tup (q.1.1.map .int)) (.tup (t.1.map .int)) h = .ok (.bl (decide (q.1.1 = t.1))) h := fun h => by
        show (match eqD h (.tup (q.1.1.map .int)) (.tup (t.1.map .int)) with | some b => R.ok (D.bl b) h | none => R.bad) = _
        rw [eqD_ints]
      have ix : ∀ h, ixD (ftm q.1) (.int 0) h = .ok (.tup (q.1.1.map .int)) h := fun h => by simp [ixD, ftm]
      simp only [wipeD, asn, asns, List.set, R.bind_ok, evt, ev, List.getElem?_cons_zero, List.getElem?_cons_succ, ix, ec, asBl, spotG]
      by_cases c : q.1.1 = t.1
      · simp only [c, decide_true, if_true, R.bind_ok, R.calm_ok]
      · simp only [c, decide_false, if_false, Bool.false_eq_true, R.calm_ok]
    · have : (1000 : Nat) < sizeLine := by decide
      rw [List.length_zipIdx]
      simp only [List.length_nil, Nat.zero_add]
      omega
    · rw [List.nil_append]
  generalize eh1 : h ++ C.lst (rs.map ftm) :: tl = hh at es ei
  have hd : hh[h.length]? = some (.lst (rs.map ftm)) := by rw [← eh1]; exact g tl
  have e0 : ex Δ gl (.asg (.nm 4) (.lc (.var 5) (.tup (.cons (.nm 5) (.cons (.nm 6) .nil))) (.enm (.var 1)) (.so (.cmp .Eq (.idx (.var 6) (.int 0)) (.var 2))) [5, 6])) [v0, some (.ref h.length), some (.tup (t.1.map .int)), some (fr t.2), v4, v5, v6] hh =
      .ok (.nx [v0, some (.ref h.length), some (.tup (t.1.map .int)), some (fr t.2), some (.ref hh.length), v5, v6]) (hh ++ [.lst ((rs.zipIdx).filterMap (spotG t.1))]) := by
    rw [ex, es, alloc, R.toF_ok, asn, R.calm_ok, R.toF_ok]
    rfl
  have lh : h.length < hh.length := (List.getElem?_eq_some_iff.mp hd).1
  have keep : ∀ a : Hh, (hh ++ a)[h.length]? = some (.lst (rs.map ftm)) := fun a => by rw [List.getElem?_append_left lh]; exact hd
  unfold L_law_gathered_0
  rcases spots_at t.1 rs 0 nd with ⟨f1, f2⟩ | ⟨j, v, f1, f2, f3, f4⟩
  · rw [f2] at e0
    have ec : ev Δ gl (.cmp .Eq (.var 4) (.lst .nil)) [v0, some (.ref h.length), some (.tup (t.1.map .int)), some (fr t.2), some (.ref hh.length), v5, v6] (hh ++ [.lst []]) = .ok (.bl true) (hh ++ [.lst []] ++ [.lst []]) := by
      have d1 : (hh ++ [C.lst []] ++ [C.lst []])[hh.length]? = some (.lst (([] : List Int).map D.int)) := by simp
      have d2 : (hh ++ [C.lst []] ++ [C.lst []])[hh.length + 1]? = some (.lst (([] : List Int).map D.int)) := by simp
      have q : eqD (hh ++ [C.lst []] ++ [C.lst []]) (.ref hh.length) (.ref (hh.length + 1)) = some true := by
        unfold eqD
        simp only [deep_lst d1, deep_lst d2]
        rw [if_pos ⟨shaped_ints [], shaped_ints []⟩]
        rfl
      have ln : (hh ++ [C.lst ([] : List D)]).length = hh.length + 1 := by simp
      simp only [ev, evs, List.getElem?_cons_zero, List.getElem?_cons_succ, R.bind_ok, lineOk, List.length_nil, Nat.zero_le, decide_true, if_true, alloc, ln]
      show (match eqD (hh ++ [C.lst []] ++ [C.lst []]) (.ref hh.length) (.ref (hh.length + 1)) with | some b => R.ok (D.bl b) (hh ++ [C.lst []] ++ [C.lst []]) | none => R.bad) = _
      rw [q]
    have g2 : (hh ++ [C.lst []] ++ [C.lst []])[h.length]? = some (.lst (rs.map ftm)) := by rw [List.append_assoc]; exact keep _
    have acc : accR rs t = rs ++ [t] := by unfold accR; rw [f1]; rfl
    have sl : (rs.map ftm).length < sizeLine := by rw [List.length_map]; exact Nat.lt_of_lt_of_le hl (by decide)
    have fin : (hh ++ [C.lst []] ++ [C.lst []]).set h.length (.lst (rs.map ftm ++ [ftm t])) = h ++ .lst ((accR rs t).map ftm) :: (tl ++ [C.lst [], C.lst []]) := by
      rw [← eh1, acc, List.map_append]
      simp
    refine ⟨tl ++ [C.lst [], C.lst []], some (.ref hh.length), v5, v6, ?_⟩
    refine (exs_nx e0).trans ?_
    have ea : app (.ref h.length) (ftm t) (hh ++ [C.lst []] ++ [C.lst []]) = .ok .non (h ++ .lst ((accR rs t).map ftm) :: (tl ++ [C.lst [], C.lst []])) := by
      rw [← fin]
      simp only [app, g2, if_pos sl]
    have el : lstOk (.ref h.length) (hh ++ [C.lst []] ++ [C.lst []]) = .ok (.ref h.length) (hh ++ [C.lst []] ++ [C.lst []]) := by simp only [lstOk, g2]
    have ee : ev Δ gl (.app (.var 1) (.tup (.cons (.var 2) (.cons (.var 3) .nil)))) [v0, some (.ref h.length), some (.tup (t.1.map .int)), some (fr t.2), some (.ref hh.length), v5, v6] (hh ++ [C.lst []] ++ [C.lst []]) = .ok .non (h ++ .lst ((accR rs t).map ftm) :: (tl ++ [C.lst [], C.lst []])) := by
      rw [← ea]
      simp only [ev, evs, List.getElem?_cons_zero, List.getElem?_cons_succ, R.bind_ok, el]
      simp [lineOk, sizeLine, ftm]
    simp only [exs, ex, ec, R.bind_ok, asBl, R.toF_ok, if_true, ee]
  · rw [f3, Nat.zero_add] at e0
    have hj : j < rs.length := (List.getElem?_eq_some_iff.mp f1).1
    have ec : ev Δ gl (.cmp .Eq (.var 4) (.lst .nil)) [v0, some (.ref h.length), some (.tup (t.1.map .int)), some (fr t.2), some (.ref hh.length), v5, v6] (hh ++ [.lst [.int (j : Int)]]) = .ok (.bl false) (hh ++ [.lst [.int (j : Int)]] ++ [.lst []]) := by
      have d1 : (hh ++ [C.lst [.int (j : Int)]] ++ [C.lst []])[hh.length]? = some (.lst (([(j : Int)] : List Int).map D.int)) := by simp
      have d2 : (hh ++ [C.lst [.int (j : Int)]] ++ [C.lst []])[hh.length + 1]? = some (.lst (([] : List Int).map D.int)) := by simp
      have q : eqD (hh ++ [C.lst [.int (j : Int)]] ++ [C.lst []]) (.ref hh.length) (.ref (hh.length + 1)) = some false := by
        unfold eqD
        simp only [deep_lst d1, deep_lst d2]
        rw [if_pos ⟨shaped_ints [(j : Int)], shaped_ints []⟩]
        rfl
      have ln : (hh ++ [C.lst [D.int (j : Int)]]).length = hh.length + 1 := by simp
      simp only [ev, evs, List.getElem?_cons_zero, List.getElem?_cons_succ, R.bind_ok, lineOk, List.length_nil, Nat.zero_le, decide_true, if_true, alloc, ln]
      show (match eqD (hh ++ [C.lst [.int (j : Int)]] ++ [C.lst []]) (.ref hh.length) (.ref (hh.length + 1)) with | some b => R.ok (D.bl b) (hh ++ [C.lst [.int (j : Int)]] ++ [C.lst []]) | none => R.bad) = _
      rw [q]
    generalize eH : hh ++ [C.lst [.int (j : Int)]] ++ [C.lst []] = H2 at ec
    have g2 : H2[h.length]? = some (.lst (rs.map ftm)) := by rw [← eH, List.append_assoc]; exact keep _
    have g3 : H2[hh.length]? = some (.lst [.int (j : Int)]) := by rw [← eH]; simp
    have acc : accR rs t = rs.set j (t.1, v + t.2) := by unfold accR; rw [f2]; exact f4 t.2
    have sv : Sz (k * (B + 1) + 1) v := (o _ (List.mem_of_getElem? f1)).sz
    have pl := ha v t.2 _ _ H2 sv ot.sz (by omega)
    have x4 : ixD (.ref hh.length) (.int 0) H2 = .ok (.int (j : Int)) H2 := by simp [ixD, listAt, g3]
    have at1 : atI (rs.map ftm) (j : Int) = some (ftm (t.1, v)) := by
      rw [atI_nat (by simpa using hj), List.getElem?_map, f1]
      rfl
    have x1 : ixD (.ref h.length) (.int (j : Int)) H2 = .ok (ftm (t.1, v)) H2 := by
      have q : listAt H2 h.length = some (rs.map ftm) := by simp only [listAt, g2]
      simp only [ixD, q, at1]
    have x0 : ixD (ftm (t.1, v)) (.int 1) H2 = .ok (fr v) H2 := by simp [ixD, ftm]
    have st : setI (.ref h.length) (.int (j : Int)) (ftm (t.1, v + t.2)) H2 = .ok () (h ++ .lst ((accR rs t).map ftm) :: (tl ++ [C.lst [.int (j : Int)], C.lst []])) := by
      have ix : ixN (rs.map ftm).length (j : Int) = some j := by
        unfold ixN
        rw [if_pos (by omega), if_pos (by rw [List.length_map]; omega)]
        rfl
      simp only [setI, g2, ix]
      congr 1
      rw [← eH, ← eh1, acc, List.map_set]
      simp
    have ev1 : ev Δ gl (.tup (.cons (.var 2) (.cons (.call i (.cons (.idx (.idx (.var 1) (.idx (.var 4) (.int 0))) (.int 1)) (.cons (.var 3) .nil))) .nil))) [v0, some (.ref h.length), some (.tup (t.1.map .int)), some (fr t.2), some (.ref hh.length), v5, v6] H2 = .ok (ftm (t.1, v + t.2)) H2 := by
      simp only [ev, evs, List.getElem?_cons_zero, List.getElem?_cons_succ, R.bind_ok, x4, x1, x0, pl]
      simp [lineOk, sizeLine, ftm]
    refine ⟨tl ++ [C.lst [.int (j : Int)], C.lst []], some (.ref hh.length), v5, v6, ?_⟩
    refine (exs_nx e0).trans ?_
    simp only [exs, ex, ec, R.bind_ok, asBl, R.toF_ok, Bool.false_eq_true, if_false, ev1]
    simp only [asn, ev, List.getElem?_cons_zero, List.getElem?_cons_succ, R.bind_ok, x4, st, R.calm_ok, R.toF_ok]
set_option maxHeartbeats 1000000 in
theorem s_law_gathered {i : Nat} (ha : S_op (· + ·) (Δ i)) : S_formW (run Δ gl (F_law_gathered i)) := by
  intro n B ts m h hm ot hn hl hB
  have lm : m < h.length := (List.getElem?_eq_some_iff.mp hm).1
  have keep : ∀ t : Hh, (h ++ t)[m]? = some (.lst (ts.map ftm)) := fun t => by rw [List.getElem?_append_left lm]; exact hm
  obtain ⟨ρ', h', e, i2⟩ := for_inv (gs := [(m, ts.map ftm)]) (tg := fun d ρ h => asn Δ gl (.tup (.cons (.nm 2) (.cons (.nm 3) .nil))) d ρ h) (bd := fun ρ h => exs Δ gl (L_law_gathered_0 i) ρ h) ftm accR
    (fun k rs ρ h' => (∃ tl, h' = h ++ .lst (rs.map ftm) :: tl) ∧ (rs.map (·.1)).Nodup ∧ (∀ r ∈ rs, OkT n (k * (B + 1) + 1) r) ∧ rs.length ≤ k ∧ ∃ v2 v3 v4 v5 v6, ρ = [some (.ref m), some (.ref h.length), v2, v3, v4, v5, v6])
    (fun k rs ρ h' ⟨⟨tl, eh⟩, _⟩ p hp => by
      rw [List.mem_singleton.mp hp, eh]
      simp only [listAt, keep]) ts 0 [] [some (.ref m), some (.ref h.length), none, none, none, none, none] (h ++ [.lst []])
    (fun k t rs ρ h1 ea ⟨⟨tl, eh⟩, nd, o, ln, v2, v3, v4, v5, v6, er⟩ => by
      subst eh er
      have ot1 := ot t (List.mem_of_getElem? ea)
      have hk : k < ts.length := (List.getElem?_eq_some_iff.mp ea).1
      have le := Nat.mul_le_mul_right (B + 1) (show 0 + k + 1 ≤ ts.length + 1 by omega)
      obtain ⟨tl', w4, w5, w6, e⟩ := gath_turn (Δ := Δ) (gl := gl) (tl := tl) ha (some (.ref m)) v4 v5 v6 nd o ot1 (by omega) (by omega)
      refine ⟨[some (.ref m), some (.ref h.length), some (.tup (t.1.map .int)), some (fr t.2), v4, v5, v6], _, [some (.ref m), some (.ref h.length), some (.tup (t.1.map .int)), some (fr t.2), w4, w5, w6], _, by simp [ftm, asn, asns, List.set], e, ⟨tl', rfl⟩, acc_nodup nd t, fun r hr => ?_, ?_, _, _, _, _, _, rfl⟩
      · have q := acc_ok o ot1 (by omega) r hr
        refine ⟨q.len, q.pos, q.sz.mono ?_⟩
        rw [Nat.add_mul (0 + k) 1]
        omega
      · have := acc_len rs t
        omega) ⟨⟨[], rfl⟩, by simp, (by intro r m; cases m), Nat.le_refl _, none, none, none, none, none, rfl⟩
  obtain ⟨⟨tl, rfl⟩, nd, o, ln, v2, v3, v4, v5, v6, rfl⟩ := i2
  have eg : ts.foldl accR [] = gat ts := rfl
  rw [eg] at e nd o ln
  have g : ∀ t : Hh, ((h ++ C.lst ((gat ts).map ftm) :: tl) ++ t)[h.length]? = some (.lst ((gat ts).map ftm)) := fun t => by rw [mid_app]; exact at_mid
  generalize eh1 : h ++ C.lst ((gat ts).map ftm) :: tl = hh at e g
  have g0 : hh[h.length]? = some (.lst ((gat ts).map ftm)) := by have := g []; rwa [List.append_nil] at this
  have ei : evi Δ gl (.pln (.var 1)) [some (.ref m), some (.ref h.length), v2, v3, v4, v5, v6] hh = .ok ((gat ts).map ftm, [(h.length, (gat ts).map ftm)]) hh := by
    simp only [evi, ev, List.getElem?_cons_zero, List.getElem?_cons_succ, R.bind_ok, itemsD, listAt, g0]
  have el : ev Δ gl (.lc (.var 6) (.nm 6) (.pln (.var 1)) (.so (.cmp .NotEq (.idx (.idx (.var 6) (.int 1)) (.int 0)) (.int 0))) [6]) [some (.ref m), some (.ref h.length), v2, v3, v4, v5, v6] hh = alloc (.lst (((gat ts).filter nz).map ftm)) hh := by
    rw [ev_lc ei]
    have hg : gsOk [(h.length, (gat ts).map ftm)] hh := fun p hp => by
      rw [List.mem_singleton.mp hp]
      simp only [listAt, g0]
    refine (lc_fmE hg ftm (fun t => if nz t = true then some (ftm t) else none) _ [] (fun t ht => ?_) ?_).trans ?_
    · have ix : ∀ h, ixD (ftm t) (.int 1) h = .ok (fr t.2) h := fun h => by simp [ixD, ftm]
      have ix0 : ∀ h, ixD (fr t.2) (.int 0) h = .ok (.int t.2.num) h := fun h => by simp [ixD, fr]
      have ec : ∀ h, cmpD .NotEq (.int t.2.num) (.int 0) h = .ok (.bl (nz t)) h := fun h => by
        show R.ok (D.bl (!decide (t.2.num = 0))) h = _
        congr 2
        unfold nz
        by_cases z : t.2 = 0
        · simp [z]
        · have : t.2.num ≠ 0 := fun y => z (Rat.num_eq_zero.mp y)
          simp [z, this]
      simp only [wipeD, asn, List.set, R.bind_ok, evt, ev, List.getElem?_cons_zero, List.getElem?_cons_succ, ix, ix0, ec, asBl]
      cases nz t <;> simp
    · have : (1000 : Nat) < sizeLine := by decide
      simp only [List.length_nil, Nat.zero_add]
      omega
    · rw [List.nil_append]
      congr 2
      exact fm_filter _
  have fl : ((gat ts).filter nz).length ≤ 1000 := by have := List.length_filter_le nz (gat ts); omega
  have key : exs Δ gl (B_law_gathered i) [some (.ref m), none, none, none, none, none, none] h = .ok (.rt (ffm (fw ts))) (hh ++ [.lst (((gat ts).filter nz).map ftm)] ++ [.lst ((fw ts).map ftm)]) := by
    unfold B_law_gathered
    refine (exs_nx (ex_asg (d := .ref h.length) (h1 := h ++ [.lst []]) (by simp [ev, evs, lineOk, alloc]))).trans ?_
    refine (exs_nx (ex_for (p := ts.map ftm) (gs := [(m, ts.map ftm)]) (h1 := h ++ [.lst []]) ?_ e)).trans ?_
    · rw [evi]
      simp only [ev, List.set, List.getElem?_cons_zero, R.bind_ok, itemsD, listAt, keep]
    refine exs_rt ?_
    have e3 : ev Δ gl (.blt .sorted (.cons (.lc (.var 6) (.nm 6) (.pln (.var 1)) (.so (.cmp .NotEq (.idx (.idx (.var 6) (.int 1)) (.int 0)) (.int 0))) [6]) .nil)) [some (.ref m), some (.ref h.length), v2, v3, v4, v5, v6] hh = .ok (.ref (hh.length + 1)) (hh ++ [.lst (((gat ts).filter nz).map ftm)] ++ [.lst ((fw ts).map ftm)]) := by
      rw [ev, evs, el, alloc, R.bind_ok, evs, R.bind_ok, R.bind_ok]
      show blt2 .sorted [.ref hh.length] _ = _
      simp only [blt2, get_end, sortD_ftm _ _ fl, sort_law, alloc]
      simp
    rw [ev, evs, e3, R.bind_ok, evs, R.bind_ok, R.bind_ok]
    have ln : hh.length + 1 = (hh ++ [C.lst (((gat ts).filter nz).map ftm)]).length := by simp
    simp only [bltD, listAt, ln, get_end]
    rfl
  have r := run_rt (f := F_law_gathered i) (xs := [.ref m]) rfl key
  rw [r, ← eh1]
  have q : (h ++ C.lst ((gat ts).map ftm) :: tl) ++ [C.lst (((gat ts).filter nz).map ftm)] ++ [C.lst ((fw ts).map ftm)] = h ++ (C.lst ((gat ts).map ftm) :: (tl ++ [C.lst (((gat ts).filter nz).map ftm)] ++ [C.lst ((fw ts).map ftm)])) := by simp
  rw [q]
  exact tidy_pre (ffm_flat _)
end
end HS

/-! Forms of several unknowns: slopes. -/
namespace HS
open PySem L2
/-- one power less -/
def gt1 (u : Nat) (t : Tm) : Option Tm := if 0 < t.1.getD u 0 then some (t.1.set u (t.1.getD u 0 - 1), t.2 * (t.1.getD u 0 : Rat)) else none
def grn (u : Nat) (F : List Tm) : List Tm := F.filterMap (gt1 u)
theorem set_parts (ks : List Int) (u : Nat) (p : Int) (h : u < ks.length) : ks.take u ++ [p] ++ ks.drop (u + 1) = ks.set u p := by
  rw [List.set_eq_take_append_cons_drop, if_pos h]
  simp
theorem cut_to (xs : List D) (u : Nat) : cutD xs none (some (u : Int)) = xs.take u := by
  unfold cutD
  rw [show HT.sIx xs.length xs.length (some ((u : Nat) : Int)) = min u xs.length from HT.sIx_nat xs.length xs.length u, HT.sIx_none]
  simp only [List.drop_zero, Nat.sub_zero]
  rw [← List.take_eq_take_min]
theorem cut_from (xs : List D) (u : Nat) (h : u ≤ xs.length) : cutD xs (some (u : Int)) none = xs.drop u := by
  unfold cutD
  rw [show HT.sIx xs.length 0 (some ((u : Nat) : Int)) = min u xs.length from HT.sIx_nat xs.length 0 u, HT.sIx_none]
  rw [Nat.min_eq_left h]
  exact List.take_of_length_le (by simp)
theorem sl_to (ks : List Int) (u : Nat) (h : Hh) : slD (.tup (ks.map .int)) none (some (u : Int)) h = .ok (.tup ((ks.take u).map .int)) h := by
  simp only [slD, cut_to, List.map_take]
theorem sl_from (ks : List Int) (u : Nat) (h : Hh) (hu : u < ks.length) : slD (.tup (ks.map .int)) (some ((u : Int) + 1)) none h = .ok (.tup ((ks.drop (u + 1)).map .int)) h := by
  have e : ((u : Int) + 1) = ((u + 1 : Nat) : Int) := by omega
  simp only [slD, e]
  rw [cut_from _ _ (by rw [List.length_map]; omega), List.map_drop]
theorem add_tup (a b : List D) (h : Hh) (hl : a.length + b.length ≤ 1000) : bop .add (.tup a) (.tup b) h = .ok (.tup (a ++ b)) h := by
  have : lineOk (a.length + b.length) = true := by
    unfold lineOk
    exact decide_eq_true (Nat.le_trans hl (by decide))
  simp only [bop, this, if_true]
theorem ix_ints (ks : List Int) (u : Nat) (h : Hh) (hu : u < ks.length) : ixD (.tup (ks.map .int)) (.int (u : Int)) h = .ok (.int (ks.getD u 0)) h := by
  simp only [ixD]
  rw [atI_nat (by simpa using hu), List.getElem?_map, List.getElem?_eq_getElem hu]
  simp [List.getD, hu]
theorem gt1_ok {n B u : Nat} {t r : Tm} (ot : OkT n B t) (e : gt1 u t = some r) : OkT n (B + 5) r := by
  unfold gt1 at e
  split at e
  · rename_i hp
    cases e
    have hu : u < t.1.length := by
      apply Classical.byContradiction
      intro z
      have : t.1.getD u 0 = 0 := by simp [List.getD, List.getElem?_eq_none (Nat.le_of_not_lt z)]
      omega
    have mk : t.1.getD u 0 ∈ t.1 := by
      have : t.1.getD u 0 = t.1[u] := by simp [List.getD, hu]
      rw [this]; exact List.getElem_mem hu
    have bk := ot.pos _ mk
    refine ⟨by simp [ot.len], fun k hk => ?_, ?_⟩
    · rcases List.mem_or_eq_of_mem_set hk with hk | rfl
      · exact ot.pos k hk
      · omega
    · refine ot.sz.mul ⟨?_, ?_⟩
      · show Bt 5 (t.1.getD u 0)
        unfold Bt
        omega
      · exact (show Bt 5 (1 : Int) from bts (by decide))
  · cases e
theorem grn_ok {n B u : Nat} {F : List Tm} (h : ∀ t ∈ F, OkT n B t) : ∀ r ∈ grn u F, OkT n (B + 5) r := fun r m => by
  obtain ⟨t, ht, e⟩ := List.mem_filterMap.mp m
  exact gt1_ok (h t ht) e
theorem grn_len (u : Nat) (F : List Tm) : (grn u F).length ≤ F.length := List.length_filterMap_le _ _
theorem fr_of_int (k : Int) : D.tup [.int k, .int 1] = fr (k : Rat) := rfl
theorem sz_int5 {k : Int} (h0 : 0 ≤ k) (h1 : k ≤ 16) : Sz 5 (k : Rat) := by
  refine ⟨?_, ?_⟩
  · show Bt 5 k
    unfold Bt
    omega
  · exact (show Bt 5 (1 : Int) from bts (by decide))
/-- a new list grows in its cell -/
def S_grown (f : Fn) : Prop := ∀ (n B u : Nat) (F : List Tm) h, (∀ t ∈ F, OkT n B t) → 1 ≤ n → n ≤ 3 → u < n → F.length ≤ 60 → (F.length + 1) * (B + 6) + B + 40 ≤ 8999 → f [ffm F, .int (u : Int)] h = .ok (ffm (fw (grn u F))) h
section
variable {Δ : Nat → Fn} {gl : Nat → D}
theorem exs_nil (ρ : En) (h : Hh) : exs Δ gl .nil ρ h = .ok (.nx ρ) h := by simp [exs]
theorem ex_ifT {c : E} {a b : Ss} {ρ : En} {h h1 : Hh} (e : ev Δ gl c ρ h = .ok (.bl true) h1) : ex Δ gl (.ife c a b) ρ h = exs Δ gl a ρ h1 := by
  rw [ex, e]
  simp [asBl]
theorem ex_ifF {c : E} {a b : Ss} {ρ : En} {h h1 : Hh} (e : ev Δ gl c ρ h = .ok (.bl false) h1) : ex Δ gl (.ife c a b) ρ h = exs Δ gl b ρ h1 := by
  rw [ex, e]
  simp [asBl]
theorem fold_app {α β : Type} (g : α → Option β) : ∀ (l : List α) (acc : List β), l.foldl (fun a t => a ++ (g t).toList) acc = acc ++ l.filterMap g
  | [], acc => by simp
  | x :: l, acc => by
    rw [List.foldl_cons, fold_app g l, List.filterMap_cons]
    cases g x <;> simp
set_option maxHeartbeats 1000000 in
theorem s_grown_form {i j : Nat} (hm : S_op (· * ·) (Δ i)) (hf : S_formW (Δ j)) : S_grown (run Δ gl (F_grown_form i j)) := by
  intro n B u F h oF hn hn3 hu hl hB
  obtain ⟨ρ', h', e, i2⟩ := for_inv (gs := []) (tg := fun d ρ h => asn Δ gl (.tup (.cons (.nm 3) (.cons (.nm 4) .nil))) d ρ h) (bd := fun ρ h => exs Δ gl (L_grown_form_0 i) ρ h) ftm (fun a (t : Tm) => a ++ (gt1 u t).toList)
    (fun k rs ρ h' => h' = h ++ [.lst (rs.map ftm)] ∧ rs.length ≤ k ∧ ∃ v3 v4 v5 v6, ρ = [some (ffm F), some (.int (u : Int)), some (.ref h.length), v3, v4, v5, v6]) (fun _ _ _ _ _ => gsOk_nil _) F 0 []
    [some (ffm F), some (.int (u : Int)), some (.ref h.length), none, none, none, none] (h ++ [.lst []])
    (fun k t rs ρ h1 ea ⟨eh, ln, v3, v4, v5, v6, er⟩ => by
      subst eh er
      have ot := oF t (List.mem_of_getElem? ea)
      have hk : k < F.length := (List.getElem?_eq_some_iff.mp ea).1
      have hu' : u < t.1.length := by rw [ot.len]; exact hu
      have ix := fun h => ix_ints t.1 u h hu'
      have g : (h ++ [C.lst (rs.map ftm)])[h.length]? = some (.lst (rs.map ftm)) := get_end
      generalize hp : t.1.getD u 0 = p at ix
      by_cases hpos : 0 < p
      · have mk : p ∈ t.1 := by
          have : t.1.getD u 0 = t.1[u] := by simp [List.getD, hu']
          rw [← hp, this]; exact List.getElem_mem hu'
        have bk := ot.pos _ mk
        have m := hm t.2 (p : Rat) B 5 (h ++ [C.lst (rs.map ftm)]) ot.sz (sz_int5 bk.1 bk.2) (by omega)
        have eg : gt1 u t = some (t.1.set u (p - 1), t.2 * (p : Rat)) := by unfold gt1; rw [hp, if_pos hpos]
        have s1 := fun h => sl_to t.1 u h
        have s2 := fun h => sl_from t.1 u h hu'
        have lt := ot.len
        have a1 := fun h => add_tup ((t.1.take u).map D.int) [.int (p - 1)] h (by simp; omega)
        have a2 := fun h => add_tup ((t.1.take u).map D.int ++ [.int (p - 1)]) ((t.1.drop (u + 1)).map D.int) h (by simp; omega)
        have ej : (t.1.take u).map D.int ++ [.int (p - 1)] ++ (t.1.drop (u + 1)).map D.int = (t.1.set u (p - 1)).map .int := by
          rw [← set_parts t.1 u (p - 1) hu']
          simp
        generalize eH : h ++ [C.lst (rs.map ftm)] = H1 at g m
        have eless : ev Δ gl (.bin .add (.bin .add (.slc (.var 3) .no (.so (.var 1))) (.tup (.cons (.bin .sub (.var 5) (.int 1)) .nil))) (.slc (.var 3) (.so (.bin .add (.var 1) (.int 1))) .no)) [some (ffm F), some (.int (u : Int)), some (.ref h.length), some (.tup (t.1.map .int)), some (fr t.2), some (.int p), v6] H1 = .ok (.tup ((t.1.set u (p - 1)).map .int)) H1 := by
          have q : ∀ h, bop .sub (.int p) (.int 1) h = .ok (.int (p - 1)) h := fun _ => rfl
          have q2 : ∀ h, bop .add (.int (u : Int)) (.int 1) h = .ok (.int ((u : Int) + 1)) h := fun _ => rfl
          have l1 : lineOk ([D.int (p - 1)] : List D).length = true := by show lineOk 1 = true; decide
          simp only [ev, evs, evo, getI, List.getElem?_cons_zero, List.getElem?_cons_succ, R.bind_ok, s1, q, l1, if_true, a1, q2, s2, a2, ej]
        have eapp : ev Δ gl (.app (.var 2) (.tup (.cons (.var 6) (.cons (.call i (.cons (.var 4) (.cons (.tup (.cons (.var 5) (.cons (.int 1) .nil))) .nil))) .nil)))) [some (ffm F), some (.int (u : Int)), some (.ref h.length), some (.tup (t.1.map .int)), some (fr t.2), some (.int p), some (.tup ((t.1.set u (p - 1)).map .int))] H1 =
            .ok .non (h ++ [.lst ((rs ++ [(t.1.set u (p - 1), t.2 * (p : Rat))]).map ftm)]) := by
          have lo : lstOk (.ref h.length) H1 = .ok (.ref h.length) H1 := by simp only [lstOk, g]
          have sl : (rs.map ftm).length < sizeLine := by rw [List.length_map]; exact Nat.lt_of_lt_of_le (show rs.length < 1000 by omega) (by decide)
          have ap : app (.ref h.length) (ftm (t.1.set u (p - 1), t.2 * (p : Rat))) H1 = .ok .non (h ++ [.lst ((rs ++ [(t.1.set u (p - 1), t.2 * (p : Rat))]).map ftm)]) := by
            simp only [app, g, if_pos sl]
            rw [← eH, set_end, List.map_append]
            rfl
          have l2 : ∀ a b : D, lineOk ([a, b] : List D).length = true := fun a b => by show lineOk 2 = true; decide
          have m' : Δ i [fr t.2, .tup [.int p, .int 1]] H1 = .ok (fr (t.2 * (p : Rat))) H1 := m
          simp only [ev, evs, List.getElem?_cons_zero, List.getElem?_cons_succ, R.bind_ok, lo, l2, if_true, m']
          exact ap
        refine ⟨[some (ffm F), some (.int (u : Int)), some (.ref h.length), some (.tup (t.1.map .int)), some (fr t.2), v5, v6], H1, [some (ffm F), some (.int (u : Int)), some (.ref h.length), some (.tup (t.1.map .int)), some (fr t.2), some (.int p), some (.tup ((t.1.set u (p - 1)).map .int))], h ++ [.lst ((rs ++ [(t.1.set u (p - 1), t.2 * (p : Rat))]).map ftm)], by simp [ftm, asn, asns, List.set], ?_, ?_, ?_, _, _, _, _, rfl⟩
        · have q : ∀ h, cmpD .Gt (.int p) (.int 0) h = .ok (.bl true) h := fun h => by
            show R.ok (D.bl (decide (0 < p))) h = _
            rw [decide_eq_true hpos]
          show exs Δ gl (L_grown_form_0 i) _ H1 = _
          unfold L_grown_form_0
          refine (exs_nx (ex_asg (d := .int p) (h1 := H1) (by simp [ev, ix]))).trans ?_
          simp only [List.set]
          have e6 := ex_asg (i := 6) eless
          simp only [List.set] at e6
          refine (exs_nx ((ex_ifT (h1 := H1) (by simp only [ev, List.getElem?_cons_zero, List.getElem?_cons_succ, R.bind_ok, q])).trans ((exs_nx e6).trans ((exs_nx (ex_exp eapp)).trans (exs_nil _ _))))).trans (exs_nil _ _)
        · rw [eg]; rfl
        · rw [eg]; simp; omega
      · have eg : gt1 u t = none := by unfold gt1; rw [hp, if_neg hpos]
        refine ⟨[some (ffm F), some (.int (u : Int)), some (.ref h.length), some (.tup (t.1.map .int)), some (fr t.2), v5, v6], h ++ [.lst (rs.map ftm)], [some (ffm F), some (.int (u : Int)), some (.ref h.length), some (.tup (t.1.map .int)), some (fr t.2), some (.int p), v6], h ++ [.lst (rs.map ftm)], by simp [ftm, asn, asns, List.set], ?_, ?_, ?_, _, _, _, _, rfl⟩
        · have q : ∀ h, cmpD .Gt (.int p) (.int 0) h = .ok (.bl false) h := fun h => by
            show R.ok (D.bl (decide (0 < p))) h = _
            rw [decide_eq_false hpos]
          simp [L_grown_form_0, exs, ex, ev, ix, q, asn, asBl, List.set, R.calm]
        · rw [eg]; simp
        · rw [eg]; simp; omega) ⟨rfl, Nat.le_refl _, none, none, none, none, rfl⟩
  obtain ⟨rfl, ln, v3, v4, v5, v6, rfl⟩ := i2
  rw [fold_app, List.nil_append] at e
  have ok := grn_ok (u := u) oF
  have len := grn_len u F
  have fw' := hf n (B + 5) (grn u F) h.length (h ++ [.lst ((grn u F).map ftm)]) get_end ok hn (by omega) (by
    have := Nat.mul_le_mul_right (B + 6) (show (grn u F).length + 1 ≤ F.length + 1 by omega)
    show ((grn u F).length + 1) * (B + 6) + (B + 5) + 20 ≤ 8999
    omega)
  have key : exs Δ gl (B_grown_form i j) [some (ffm F), some (.int (u : Int)), none, none, none, none, none] h = .ok (.rt (ffm (fw (grn u F)))) (h ++ [.lst ((grn u F).map ftm)]) := by
    unfold B_grown_form
    refine (exs_nx (ex_asg (d := .ref h.length) (h1 := h ++ [.lst []]) (by simp [ev, evs, lineOk, alloc]))).trans ?_
    refine (exs_nx (ex_for (p := F.map ftm) (gs := []) (h1 := h ++ [.lst []]) (evi_plnT (a := .var 0) (by simp [ev, ffm])) e)).trans ?_
    refine exs_rt ?_
    simp only [ev, evs, List.getElem?_cons_zero, List.getElem?_cons_succ, R.bind_ok]
    exact fw'
  have r := run_rt (f := F_grown_form i j) (xs := [ffm F, .int (u : Int)]) rfl key
  rw [r]
  exact tidy_pre (ffm_flat _)
end
end HS

/-! Forms of several unknowns: slopes, worths of a system. -/
namespace HS
open PySem L2
theorem lc_grow {α : Type} {el : D → Hh → R (Option D)} (enc g : α → D) {h : Hh} : ∀ (items : List α) (acc : List D) (t : Hh), (∀ d ∈ items, ∀ t, ∃ t', el (enc d) (h ++ t) = .ok (some (g d)) (h ++ t')) → acc.length + items.length < sizeLine →
    ∃ t', lcL [] el (items.map enc) acc (h ++ t) = alloc (.lst (acc ++ items.map g)) (h ++ t')
  | [], acc, t, _, hl => ⟨t, by simp at hl; simp [lcL, gsOk_nil, Nat.le_of_lt hl]⟩
  | d :: items, acc, t, hel, hl => by
    simp only [List.length_cons] at hl
    obtain ⟨t1, e1⟩ := hel d (by simp) t
    obtain ⟨t2, e2⟩ := lc_grow (el := el) enc g items (acc ++ [g d]) t1 (fun x hx => hel x (List.mem_cons_of_mem _ hx)) (by simp; omega)
    refine ⟨t2, ?_⟩
    rw [List.map_cons]
    unfold lcL
    rw [if_pos ⟨gsOk_nil _, by omega⟩, e1, R.bind_ok]
    simp only
    rw [e2]
    simp
theorem fm_some {α : Type} (f : α → D) : ∀ l : List α, l.filterMap (fun x => some (f x)) = l.map f
  | [] => rfl
  | x :: l => by rw [List.filterMap_cons, List.map_cons, fm_some f l]
def slF (p : List Rat) (F : List Tm) (u : Nat) : Rat := fs p (grn u F)
theorem fold_sl (p : List Rat) (u : Nat) : ∀ (F : List Tm) (z : Rat), F.foldl (fun a t => match gt1 u t with | some r => a + r.2 * mon r.1 p | none => a) z = z + slF p F u
  | [], z => by
    have : slF p [] u = 0 := rfl
    rw [List.foldl_nil, this]; grind
  | t :: F, z => by
    rw [List.foldl_cons, fold_sl p u F]
    unfold slF grn
    rw [List.filterMap_cons]
    cases gt1 u t with
    | none => rfl
    | some r => rw [fs]; grind
/-- the sizes fit -/
structure SzF (L B X : Nat) : Prop where
  a : (L + 1) * (TB (B + 5) X + 1) + 200 + 16 * X + B ≤ 8999
  b : (L + 1) * (B + 6) + B + 40 ≤ 8999
  c : (L + 1) * (TB (L * (B + 6) + 1) X + 1) + 100 + 16 * X + (L * (B + 6) + 1) ≤ 8999
def S_lslope (f : Fn) : Prop := ∀ (n B X u : Nat) (F : List Tm) (p : List Rat) h, (∀ t ∈ F, OkT n B t) → OkPl n X p → n ≤ 3 → u < n → (F.length + 1) * (TB (B + 5) X + 1) + 200 + 16 * X + B ≤ 8999 → f [ffm F, .tup (p.map fr), .int (u : Int)] h = .ok (fr (slF p F u)) h
section
variable {Δ : Nat → Fn} {gl : Nat → D}
set_option maxHeartbeats 1000000 in
theorem s_law_slope {i j k : Nat} (ha : S_op (· + ·) (Δ i)) (hw : S_tw (Δ j)) (hm : S_op (· * ·) (Δ k)) : S_lslope (run Δ gl (F_law_slope i j k)) := by
  intro n B X u F p h oF op hn hu hB
  have hT : TB (B + 5) X = B + 5 + 3 * (16 * X + 1) + 1 := rfl
  have e0 : (fr 0 : D) = .tup [.int 0, .int 1] := rfl
  obtain ⟨ρ', h', e, i2⟩ := for_inv (gs := []) (tg := fun d ρ h => asn Δ gl (.tup (.cons (.nm 4) (.cons (.nm 5) .nil))) d ρ h) (bd := fun ρ h => exs Δ gl (L_law_slope_0 i j k) ρ h) ftm
    (fun a t => match gt1 u t with | some r => a + r.2 * mon r.1 p | none => a)
    (fun c b ρ h' => h' = h ∧ Sz (c * (TB (B + 5) X + 1) + 1) b ∧ ∃ v4 v5 v6, ρ = [some (ffm F), some (.tup (p.map fr)), some (.int (u : Int)), some (fr b), v4, v5, v6]) (fun _ _ _ _ _ => gsOk_nil _) F 0 0
    [some (ffm F), some (.tup (p.map fr)), some (.int (u : Int)), some (fr 0), none, none, none] h
    (fun c t b ρ h1 ea ⟨eh, sb, v4, v5, v6, er⟩ => by
      subst eh er
      have ot := oF t (List.mem_of_getElem? ea)
      have hk : c < F.length := (List.getElem?_eq_some_iff.mp ea).1
      have hu' : u < t.1.length := by rw [ot.len]; exact hu
      have ix := ix_ints t.1 u h1 hu'
      have le := Nat.mul_le_mul_right (TB (B + 5) X + 1) (show 0 + c + 2 ≤ F.length + 1 by omega)
      rw [Nat.add_mul] at le
      generalize hp : t.1.getD u 0 = q at ix
      by_cases hpos : 0 < q
      · have mk : q ∈ t.1 := by
          have : t.1.getD u 0 = t.1[u] := by simp [List.getD, hu']
          rw [← hp, this]; exact List.getElem_mem hu'
        have bk := ot.pos _ mk
        have eg : gt1 u t = some (t.1.set u (q - 1), t.2 * (q : Rat)) := by unfold gt1; rw [hp, if_pos hpos]
        have og := gt1_ok ot eg
        have m : Δ k [fr t.2, .tup [.int q, .int 1]] h1 = .ok (fr (t.2 * (q : Rat))) h1 := hm t.2 (q : Rat) B 5 h1 ot.sz (sz_int5 bk.1 bk.2) (by omega)
        have w := hw n (B + 5) X (t.1.set u (q - 1), t.2 * (q : Rat)) p h1 og op hn (by omega)
        have st := tv_sz og op hn
        have pl := ha b (t.2 * (q : Rat) * mon (t.1.set u (q - 1)) p) _ _ h1 sb st (by omega)
        have lt := ot.len
        have s1 := sl_to t.1 u h1
        have s2 := sl_from t.1 u h1 hu'
        have a1 := add_tup ((t.1.take u).map D.int) [.int (q - 1)] h1 (by simp; omega)
        have a2 := add_tup ((t.1.take u).map D.int ++ [.int (q - 1)]) ((t.1.drop (u + 1)).map D.int) h1 (by simp; omega)
        have ej : (t.1.take u).map D.int ++ [.int (q - 1)] ++ (t.1.drop (u + 1)).map D.int = (t.1.set u (q - 1)).map .int := by
          rw [← set_parts t.1 u (q - 1) hu']
          simp
        have l1 : lineOk ([D.int (q - 1)] : List D).length = true := by show lineOk 1 = true; decide
        have l2 : ∀ a b : D, lineOk ([a, b] : List D).length = true := fun a b => by show lineOk 2 = true; decide
        have q1 : bop .sub (.int q) (.int 1) h1 = .ok (.int (q - 1)) h1 := rfl
        have q2 : bop .add (.int (u : Int)) (.int 1) h1 = .ok (.int ((u : Int) + 1)) h1 := rfl
        have eless : ev Δ gl (.bin .add (.bin .add (.slc (.var 4) .no (.so (.var 2))) (.tup (.cons (.bin .sub (.idx (.var 4) (.var 2)) (.int 1)) .nil))) (.slc (.var 4) (.so (.bin .add (.var 2) (.int 1))) .no)) [some (ffm F), some (.tup (p.map fr)), some (.int (u : Int)), some (fr b), some (.tup (t.1.map .int)), some (fr t.2), v6] h1 = .ok (.tup ((t.1.set u (q - 1)).map .int)) h1 := by
          simp only [ev, evs, evo, getI, List.getElem?_cons_zero, List.getElem?_cons_succ, R.bind_ok, s1, ix, q1, l1, if_true, a1, q2, s2, a2, ej]
        have ew : ev Δ gl (.call i (.cons (.var 3) (.cons (.call j (.cons (.tup (.cons (.var 6) (.cons (.call k (.cons (.var 5) (.cons (.tup (.cons (.idx (.var 4) (.var 2)) (.cons (.int 1) .nil))) .nil))) .nil))) (.cons (.var 1) .nil))) .nil)))
            [some (ffm F), some (.tup (p.map fr)), some (.int (u : Int)), some (fr b), some (.tup (t.1.map .int)), some (fr t.2), some (.tup ((t.1.set u (q - 1)).map .int))] h1 = .ok (fr (b + t.2 * (q : Rat) * mon (t.1.set u (q - 1)) p)) h1 := by
          have w' : Δ j [.tup [.tup ((t.1.set u (q - 1)).map .int), fr (t.2 * (q : Rat))], .tup (p.map fr)] h1 = .ok (fr (t.2 * (q : Rat) * mon (t.1.set u (q - 1)) p)) h1 := w
          simp only [ev, evs, List.getElem?_cons_zero, List.getElem?_cons_succ, R.bind_ok, ix, l2, if_true, m, w', pl]
        refine ⟨[some (ffm F), some (.tup (p.map fr)), some (.int (u : Int)), some (fr b), some (.tup (t.1.map .int)), some (fr t.2), v6], h1, [some (ffm F), some (.tup (p.map fr)), some (.int (u : Int)), some (fr (b + t.2 * (q : Rat) * mon (t.1.set u (q - 1)) p)), some (.tup (t.1.map .int)), some (fr t.2), some (.tup ((t.1.set u (q - 1)).map .int))], h1, by simp [ftm, asn, asns, List.set], ?_, rfl, ?_, ?_⟩
        · have qc : cmpD .Gt (.int q) (.int 0) h1 = .ok (.bl true) h1 := by
            show R.ok (D.bl (decide (0 < q))) h1 = _
            rw [decide_eq_true hpos]
          have e6 := ex_asg (i := 6) eless
          have e3 := ex_asg (i := 3) ew
          simp only [List.set] at e6 e3
          show exs Δ gl (L_law_slope_0 i j k) _ h1 = _
          unfold L_law_slope_0
          exact (exs_nx ((ex_ifT (h1 := h1) (by simp only [ev, List.getElem?_cons_zero, List.getElem?_cons_succ, R.bind_ok, ix, qc])).trans ((exs_nx e6).trans ((exs_nx e3).trans (exs_nil _ _))))).trans (exs_nil _ _)
        · rw [eg]
          refine (sb.add st).mono ?_
          rw [Nat.add_mul (0 + c) 1]
          omega
        · rw [eg]
          exact ⟨_, _, _, rfl⟩
      · have eg : gt1 u t = none := by unfold gt1; rw [hp, if_neg hpos]
        refine ⟨[some (ffm F), some (.tup (p.map fr)), some (.int (u : Int)), some (fr b), some (.tup (t.1.map .int)), some (fr t.2), v6], h1, [some (ffm F), some (.tup (p.map fr)), some (.int (u : Int)), some (fr b), some (.tup (t.1.map .int)), some (fr t.2), v6], h1, by simp [ftm, asn, asns, List.set], ?_, rfl, ?_, ?_⟩
        · have qc : cmpD .Gt (.int q) (.int 0) h1 = .ok (.bl false) h1 := by
            show R.ok (D.bl (decide (0 < q))) h1 = _
            rw [decide_eq_false hpos]
          show exs Δ gl (L_law_slope_0 i j k) _ h1 = _
          unfold L_law_slope_0
          exact (exs_nx ((ex_ifF (h1 := h1) (by simp only [ev, List.getElem?_cons_zero, List.getElem?_cons_succ, R.bind_ok, ix, qc])).trans (exs_nil _ _))).trans (exs_nil _ _)
        · rw [eg]
          refine sb.mono ?_
          rw [Nat.add_mul (0 + c) 1]
          omega
        · rw [eg]
          exact ⟨_, _, _, rfl⟩) ⟨rfl, (show Sz 1 0 from ⟨bts (by decide), bts (by decide)⟩).mono (by omega), none, none, none, rfl⟩
  obtain ⟨rfl, _, v4, v5, v6, rfl⟩ := i2
  rw [fold_sl] at e
  have key : exs Δ gl (B_law_slope i j k) [some (ffm F), some (.tup (p.map fr)), some (.int (u : Int)), none, none, none, none] h' = .ok (.rt (fr (slF p F u))) h' := by
    unfold B_law_slope
    refine (exs_nx (ex_asg (d := fr 0) (h1 := h') (by simp [ev, evs, lineOk, sizeLine, e0]))).trans ?_
    refine (exs_nx (ex_for (p := F.map ftm) (gs := []) (h1 := h') (evi_plnT (a := .var 0) (by simp [ev, ffm])) e)).trans ?_
    refine exs_rt ?_
    have z : (0 : Rat) + slF p F u = slF p F u := by grind
    simp [ev, z]
  have r := run_rt (f := F_law_slope i j k) (xs := [ffm F, .tup (p.map fr), .int (u : Int)]) rfl key
  rw [r]
  exact tidy_self (fr_flat _)
/-- a row of slopes, the table -/
def rowF (n : Nat) (p : List Rat) (F : List Tm) : D := .tup ((List.range n).map fun u => fr (slF p F u))
def tabF (n : Nat) (p : List Rat) (S : List (List Tm)) : D := .tup (S.map (rowF n p))
def sysD (S : List (List Tm)) : D := .tup (S.map ffm)
theorem rowF_flat (n : Nat) (p : List Rat) (F : List Tm) : (rowF n p F).flat = true := by
  unfold rowF
  simp only [D.flat]
  rw [D.flats_iff]
  intro d m
  obtain ⟨t, _, rfl⟩ := List.mem_map.mp m
  exact fr_flat _
theorem tabF_flat (n : Nat) (p : List Rat) (S : List (List Tm)) : (tabF n p S).flat = true := by
  unfold tabF
  simp only [D.flat]
  rw [D.flats_iff]
  intro d m
  obtain ⟨t, _, rfl⟩ := List.mem_map.mp m
  exact rowF_flat _ _ _
structure OkS (n B L : Nat) (S : List (List Tm)) : Prop where
  len : S.length = n
  n1 : 1 ≤ n
  n3 : n ≤ 3
  ok : ∀ F ∈ S, ∀ t ∈ F, OkT n B t
  fl : ∀ F ∈ S, F.length ≤ L
def S_tab (f : Fn) : Prop := ∀ (n B X L : Nat) (S : List (List Tm)) (p : List Rat) h, OkS n B L S → OkPl n X p → L ≤ 60 → SzF L B X → f [sysD S, .tup (p.map fr)] h = .ok (tabF n p S) h
def S_due07 (f : Fn) : Prop := ∀ (n B X L : Nat) (S : List (List Tm)) (p : List Rat) h, OkS n B L S → OkPl n X p → L ≤ 60 → SzF L B X → f [sysD S, .tup (p.map fr)] h = .ok (.tup (S.map fun F => fr (fs p F))) h
theorem SzF.wf {L B X l : Nat} (h : SzF L B X) (hl : l ≤ L) : (l + 1) * (TB B X + 1) + 100 + 16 * X + B ≤ 8999 := by
  have h1 := h.a
  have hT : TB (B + 5) X = B + 5 + 3 * (16 * X + 1) + 1 := rfl
  have hT2 : TB B X = B + 3 * (16 * X + 1) + 1 := rfl
  have l1 := Nat.mul_le_mul (show l + 1 ≤ L + 1 by omega) (show TB B X + 1 ≤ TB (B + 5) X + 1 by omega)
  omega
theorem rgv_ok (n : Nat) (h : Hh) (hn : n ≤ 3) : rgvD (.rng 0 (n : Int)) h = .ok (upFrom 0 n, []) h := by
  have s1 : small62 0 = true := by decide
  have s2 : small62 (n : Int) = true := small_le (by omega) (by omega)
  simp only [rgvD, s1, s2, Bool.and_self, if_true, Int.sub_zero, Int.toNat_natCast]
theorem up_map (n : Nat) : upFrom 0 n = (List.range n).map fun i : Nat => D.int (i : Int) := by
  rw [upFrom_map]
  refine List.map_congr_left fun i _ => ?_
  rw [Int.zero_add]
theorem tup_end (h t : Hh) (xs : List D) : bltD .tuple [.ref (h ++ t).length] (h ++ t ++ [.lst xs]) = .ok (.tup xs) (h ++ (t ++ [.lst xs])) := by
  simp only [bltD, listAt, get_end]
  rw [List.append_assoc]
theorem s_worths_of {i : Nat} (hw : S_wf (Δ i)) : S_due07 (run Δ gl (F_worths_of i)) := by
  intro n B X L S p h oS op hL sz
  have fm := lc_fmE (gs := []) (el := fun d h => ((asn Δ gl (.nm 2) d (wipeD [some (sysD S), some (.tup (p.map fr)), none] [2]) h).bind fun ρ1 h => (evt Δ gl .no ρ1 h).bind fun b h => if b = true then (ev Δ gl (.call i (.cons (.var 2) (.cons (.var 1) .nil))) ρ1 h).bind fun y h => .ok (some y) h else .ok none h).calm) (h := h) (gsOk_nil h) ffm (fun F => some (fr (fs p F))) S [] (fun F hF => by
    have w := hw n B X F p h (oS.ok F hF) op oS.n3 (sz.wf (oS.fl F hF))
    simp only [wipeD, asn, List.set, R.bind_ok, evt, if_true, ev, evs, List.getElem?_cons_zero, List.getElem?_cons_succ, w, R.calm_ok]) (by
      have : (1000 : Nat) < sizeLine := by decide
      have := oS.len
      have := oS.n3
      simp only [List.length_nil]
      omega)
  have el : ev Δ gl (.lc (.call i (.cons (.var 2) (.cons (.var 1) .nil))) (.nm 2) (.pln (.var 0)) .no [2]) [some (sysD S), some (.tup (p.map fr)), none] h = alloc (.lst (S.map fun F => fr (fs p F))) h := by
    rw [ev_lc (evi_plnT (xs := S.map ffm) (a := .var 0) (by simp [ev, sysD]))]
    refine fm.trans ?_
    rw [List.nil_append]
    congr 2
    exact fm_some _ _
  have key : exs Δ gl (B_worths_of i) [some (sysD S), some (.tup (p.map fr)), none] h = .ok (.rt (.tup (S.map fun F => fr (fs p F)))) (h ++ ([] ++ [.lst (S.map fun F => fr (fs p F))])) := by
    unfold B_worths_of
    refine exs_rt ?_
    rw [ev, evs, el, alloc, R.bind_ok, evs, R.bind_ok, R.bind_ok]
    have := tup_end h [] (S.map fun F => fr (fs p F))
    rw [List.append_nil] at this
    exact this
  have r := run_rt (f := F_worths_of i) (xs := [sysD S, .tup (p.map fr)]) rfl key
  rw [r]
  refine tidy_pre ?_
  simp only [D.flat]
  rw [D.flats_iff]
  intro d m
  obtain ⟨t, _, rfl⟩ := List.mem_map.mp m
  exact fr_flat _
/-- a row by its inner comprehension -/
theorem row_ev {elt : E} {it : It} {ρ : En} {n v : Nat} {p : List Rat} {F : List Tm} {H : Hh} (ei : evi Δ gl it ρ H = .ok (upFrom 0 n, []) H) (hn : n ≤ 3)
    (he : ∀ u, u < n → ev Δ gl elt ((wipeD ρ [v]).set v (some (.int (u : Int)))) H = .ok (fr (slF p F u)) H) :
    ev Δ gl (.blt .tuple (.cons (.lc elt (.nm v) it .no [v]) .nil)) ρ H = .ok (rowF n p F) (H ++ [.lst ((List.range n).map fun u => fr (slF p F u))]) := by
  have el : ev Δ gl (.lc elt (.nm v) it .no [v]) ρ H = alloc (.lst ((List.range n).map fun u => fr (slF p F u))) H := by
    rw [ev_lc ei, up_map]
    refine (lc_fmE (gsOk_nil H) (fun i : Nat => D.int (i : Int)) (fun u => some (fr (slF p F u))) _ [] (fun u hu => ?_) ?_).trans ?_
    · have := he u (by simpa using hu)
      simp only [asn, R.bind_ok, evt, if_true, this, R.calm_ok]
    · have : (1000 : Nat) < sizeLine := by decide
      simp only [List.length_nil, List.length_range]
      omega
    · rw [List.nil_append]
      congr 2
      exact fm_some _ _
  rw [ev, evs, el, alloc, R.bind_ok, evs, R.bind_ok, R.bind_ok]
  have := tup_end H [] ((List.range n).map fun u => fr (slF p F u))
  rw [List.append_nil] at this
  exact this
end
end HS

/-! Forms of several unknowns: tables of slopes. -/
namespace HS
open PySem L2
section
variable {Δ : Nat → Fn} {gl : Nat → D}
theorem lc_el {elt : E} {v : Nat} {ρ : En} {d y : D} {h h' : Hh} (e : ev Δ gl elt ((wipeD ρ [v]).set v (some d)) h = .ok y h') :
    ((asn Δ gl (.nm v) d (wipeD ρ [v]) h).bind fun ρ1 h => (evt Δ gl .no ρ1 h).bind fun b h => if b = true then (ev Δ gl elt ρ1 h).bind fun y h => .ok (some y) h else .ok none h).calm = .ok (some y) h' := by
  simp only [asn, R.bind_ok, evt, if_true, e, R.calm_ok]
set_option maxHeartbeats 1000000 in
theorem s_law_slopes {i : Nat} (hs : S_lslope (Δ i)) : S_tab (run Δ gl (F_law_slopes i)) := by
  intro n B X L S p h oS op hL sz
  have e62 : small62 (n : Int) = true := small_le (by omega) (by have := oS.n3; omega)
  have ln : ((S.map ffm).length : Int) = (n : Nat) := by simp [oS.len]
  obtain ⟨t', e⟩ := lc_grow (el := fun d h => ((asn Δ gl (.nm 3) d (wipeD [some (sysD S), some (.tup (p.map fr)), none, none] [3]) h).bind fun ρ1 h => (evt Δ gl .no ρ1 h).bind fun b h => if b = true then (ev Δ gl (.blt .tuple (.cons (.lc (.call i (.cons (.var 3) (.cons (.var 1) (.cons (.var 2) .nil)))) (.nm 2) (.rng (.cons (.blt .len (.cons (.var 0) .nil)) .nil)) .no [2]) .nil)) ρ1 h).bind fun y h => .ok (some y) h else .ok none h).calm)
    ffm (rowF n p) (h := h) S [] [] (fun F hF t => by
      refine ⟨t ++ [.lst ((List.range n).map fun u => fr (slF p F u))], ?_⟩
      have rw' := row_ev (Δ := Δ) (gl := gl) (elt := .call i (.cons (.var 3) (.cons (.var 1) (.cons (.var 2) .nil)))) (v := 2) (p := p) (F := F) (it := .rng (.cons (.blt .len (.cons (.var 0) .nil)) .nil)) (ρ := [some (sysD S), some (.tup (p.map fr)), none, some (ffm F)]) (n := n) (H := h ++ t) (evi_rng1 (by simp only [evs, ev, sysD, List.getElem?_cons_zero, R.bind_ok, bltD, ln]) e62) oS.n3 (fun u hu => by
        have w := hs n B X u F p (h ++ t) (oS.ok F hF) op oS.n3 hu (by
          have := sz.a
          have := Nat.mul_le_mul_right (TB (B + 5) X + 1) (show F.length + 1 ≤ L + 1 by have := oS.fl F hF; omega)
          omega)
        simp only [wipeD, List.set, ev, evs, List.getElem?_cons_zero, List.getElem?_cons_succ, R.bind_ok, w])
      rw [List.append_assoc] at rw'
      exact lc_el rw') (by
        have : (1000 : Nat) < sizeLine := by decide
        have := oS.len
        have := oS.n3
        simp only [List.length_nil]
        omega)
  rw [List.append_nil, List.nil_append] at e
  have key : exs Δ gl (B_law_slopes i) [some (sysD S), some (.tup (p.map fr)), none, none] h = .ok (.rt (tabF n p S)) (h ++ (t' ++ [.lst (S.map (rowF n p))])) := by
    unfold B_law_slopes
    refine exs_rt ?_
    rw [ev, evs, ev_lc (evi_plnT (xs := S.map ffm) (a := .var 0) (by simp [ev, sysD])), e, alloc, R.bind_ok, evs, R.bind_ok, R.bind_ok]
    exact tup_end h t' _
  have r := run_rt (f := F_law_slopes i) (xs := [sysD S, .tup (p.map fr)]) rfl key
  rw [r]
  exact tidy_pre (tabF_flat _ _ _)
end
end HS

/-! Forms of several unknowns: the library's table of slopes. -/
namespace HS
open PySem L2
section
variable {Δ : Nat → Fn} {gl : Nat → D}
theorem evi_rgv {e : E} {ρ : En} {n : Nat} {H : Hh} (he : ev Δ gl e ρ H = .ok (.rng 0 (n : Int)) H) (hn : n ≤ 3) : evi Δ gl (.rgv e) ρ H = .ok (upFrom 0 n, []) H := by
  rw [evi, he, R.bind_ok]
  exact rgv_ok n H hn
set_option maxHeartbeats 1000000 in
theorem s_slopes_of {i j : Nat} (hw : S_wf (Δ i)) (hg : S_grown (Δ j)) : S_tab (run Δ gl (F_slopes_of i j)) := by
  intro n B X L S p h oS op hL sz
  have ln : ((S.map ffm).length : Int) = (n : Nat) := by simp [oS.len]
  obtain ⟨t', e⟩ := lc_grow (el := fun d h => ((asn Δ gl (.nm 4) d (wipeD [some (sysD S), some (.tup (p.map fr)), some (.rng 0 (n : Int)), none, none] [4]) h).bind fun ρ1 h => (evt Δ gl .no ρ1 h).bind fun b h => if b = true then (ev Δ gl (.blt .tuple (.cons (.lc (.call i (.cons (.call j (.cons (.var 4) (.cons (.var 3) .nil))) (.cons (.var 1) .nil))) (.nm 3) (.rgv (.var 2)) .no [3]) .nil)) ρ1 h).bind fun y h => .ok (some y) h else .ok none h).calm)
    ffm (rowF n p) (h := h) S [] [] (fun F hF t => by
      refine ⟨t ++ [.lst ((List.range n).map fun u => fr (slF p F u))], ?_⟩
      have rw' := row_ev (Δ := Δ) (gl := gl) (elt := .call i (.cons (.call j (.cons (.var 4) (.cons (.var 3) .nil))) (.cons (.var 1) .nil))) (v := 3) (p := p) (F := F) (it := .rgv (.var 2)) (ρ := [some (sysD S), some (.tup (p.map fr)), some (.rng 0 (n : Int)), none, some (ffm F)]) (n := n) (H := h ++ t) (evi_rgv (by simp only [ev, List.getElem?_cons_zero, List.getElem?_cons_succ]) oS.n3) oS.n3 (fun u hu => by
        have fl := oS.fl F hF
        have g := hg n B u F (h ++ t) (oS.ok F hF) oS.n1 oS.n3 hu (by omega) (by
          have := sz.b
          have := Nat.mul_le_mul_right (B + 6) (show F.length + 1 ≤ L + 1 by omega)
          omega)
        have gl' : (grn u F).length ≤ L := Nat.le_trans (grn_len u F) fl
        have og : ∀ r ∈ fw (grn u F), OkT n (L * (B + 6) + 1) r := fun r m => by
          have q := fw_ok (grn_ok (u := u) (oS.ok F hF)) r m
          refine ⟨q.len, q.pos, q.sz.mono ?_⟩
          have := Nat.mul_le_mul_right (B + 6) gl'
          show (grn u F).length * (B + 6) + 1 ≤ _
          omega
        have w := hw n (L * (B + 6) + 1) X (fw (grn u F)) p (h ++ t) og op oS.n3 (by
          have := sz.c
          have := Nat.mul_le_mul_right (TB (L * (B + 6) + 1) X + 1) (show (fw (grn u F)).length + 1 ≤ L + 1 by have := fw_len (grn u F); omega)
          omega)
        rw [fs_fw] at w
        have w : Δ i [ffm (fw (grn u F)), .tup (p.map fr)] (h ++ t) = .ok (fr (slF p F u)) (h ++ t) := w
        simp only [wipeD, List.set, ev, evs, List.getElem?_cons_zero, List.getElem?_cons_succ, R.bind_ok, g, w])
      rw [List.append_assoc] at rw'
      exact lc_el rw') (by
        have : (1000 : Nat) < sizeLine := by decide
        have := oS.len
        have := oS.n3
        simp only [List.length_nil]
        omega)
  rw [List.append_nil, List.nil_append] at e
  have key : exs Δ gl (B_slopes_of i j) [some (sysD S), some (.tup (p.map fr)), none, none, none] h = .ok (.rt (tabF n p S)) (h ++ (t' ++ [.lst (S.map (rowF n p))])) := by
    unfold B_slopes_of
    have e1 : ev Δ gl (.blt .range (.cons (.blt .len (.cons (.var 0) .nil)) .nil)) [some (sysD S), some (.tup (p.map fr)), none, none, none] h = .ok (.rng 0 (n : Int)) h := by
      have l : bltD .len [sysD S] h = .ok (.int (n : Int)) h := by
        show R.ok (D.int ((S.map ffm).length : Int)) h = _
        rw [ln]
      simp only [ev, evs, List.getElem?_cons_zero, R.bind_ok, l]
      rfl
    refine (exs_nx (ex_asg e1)).trans ?_
    refine exs_rt ?_
    simp only [List.set]
    rw [ev, evs, ev_lc (evi_plnT (xs := S.map ffm) (a := .var 0) (by simp [ev, sysD])), e, alloc, R.bind_ok, evs, R.bind_ok, R.bind_ok]
    exact tup_end h t' _
  have r := run_rt (f := F_slopes_of i j) (xs := [sysD S, .tup (p.map fr)]) rfl key
  rw [r]
  exact tidy_pre (tabF_flat _ _ _)
end
end HS

/-! Forms of several unknowns: the checks. -/
namespace HS
open PySem L2
def B_are_ratios (f_is_ratio : Nat) : Ss :=
  (.cons (.ret (.and (.isi (.var 0) (.b "tuple")) (.blt .all (.cons (.lc (.call f_is_ratio (.cons (.var 1) .nil)) (.nm 1) (.pln (.var 0)) .no [1]) .nil)))) .nil)
def F_are_ratios (f_is_ratio : Nat) : Df := ⟨1, 2, B_are_ratios f_is_ratio⟩
def B_is_term (f_are_wholes g_MOST_POWER f_is_ratio g_ZERO : Nat) : Ss :=
  (.cons (.ife (.or (.not (.isi (.var 0) (.b "tuple"))) (.or (.cmp .NotEq (.blt .len (.cons (.var 0) .nil)) (.int 2)) (.not (.call f_are_wholes (.cons (.idx (.var 0) (.int 0)) (.cons (.var 1) .nil)))))) (
    (.cons (.ret (.bl false)) .nil)) (.nil)) 
  (.cons (.ife (.or (.cmp .Lt (.blt .min (.cons (.idx (.var 0) (.int 0)) .nil)) (.int 0)) (.cmp .Gt (.blt .sum (.cons (.idx (.var 0) (.int 0)) .nil)) (.glb g_MOST_POWER))) (
    (.cons (.ret (.bl false)) .nil)) (.nil)) 
  (.cons (.ret (.and (.call f_is_ratio (.cons (.idx (.var 0) (.int 1)) .nil)) (.cmp .NotEq (.idx (.var 0) (.int 1)) (.glb g_ZERO)))) .nil)))
def F_is_term (f_are_wholes g_MOST_POWER f_is_ratio g_ZERO : Nat) : Df := ⟨2, 2, B_is_term f_are_wholes g_MOST_POWER f_is_ratio g_ZERO⟩
def B_is_form (f_is_term : Nat) : Ss :=
  (.cons (.ife (.or (.not (.isi (.var 0) (.b "tuple"))) (.not (.blt .all (.cons (.lc (.call f_is_term (.cons (.var 2) (.cons (.var 1) .nil))) (.nm 2) (.pln (.var 0)) .no [2]) .nil)))) (
    (.cons (.ret (.bl false)) .nil)) (.nil)) 
  (.cons (.ret (.blt .all (.cons (.lc (.cmp .Lt (.idx (.var 3) (.int 0)) (.idx (.var 4) (.int 0))) (.tup (.cons (.nm 3) (.cons (.nm 4) .nil))) (.zip (.var 0) (.slc (.var 0) (.so (.int 1)) .no)) .no [3, 4]) .nil))) .nil))
def F_is_form (f_is_term : Nat) : Df := ⟨2, 5, B_is_form f_is_term⟩
def B_is_formed (g_MOST_UNKNOWNS f_is_form : Nat) : Ss :=
  (.cons (.ife (.or (.not (.isi (.var 0) (.b "tuple"))) (.not (.cmp2 .LtE .LtE (.int 1) (.blt .len (.cons (.var 0) .nil)) (.glb g_MOST_UNKNOWNS)))) (
    (.cons (.ret (.bl false)) .nil)) (.nil)) 
  (.cons (.ret (.blt .all (.cons (.lc (.call f_is_form (.cons (.var 1) (.cons (.blt .len (.cons (.var 0) .nil)) .nil))) (.nm 1) (.pln (.var 0)) .no [1]) .nil))) .nil))
def F_is_formed (g_MOST_UNKNOWNS f_is_form : Nat) : Df := ⟨1, 2, B_is_formed g_MOST_UNKNOWNS f_is_form⟩
def B_is_spot (f_are_ratios : Nat) : Ss :=
  (.cons (.ret (.and (.call f_are_ratios (.cons (.var 1) .nil)) (.cmp .Eq (.blt .len (.cons (.var 1) .nil)) (.blt .len (.cons (.var 0) .nil))))) .nil)
def F_is_spot (f_are_ratios : Nat) : Df := ⟨2, 2, B_is_spot f_are_ratios⟩
def B_check_system (f_is_formed : Nat) : Ss :=
  (.cons (.ife (.not (.call f_is_formed (.cons (.var 0) .nil))) (
    (.cons .never .nil)) (.nil)) .nil)
def F_check_system (f_is_formed : Nat) : Df := ⟨1, 1, B_check_system f_is_formed⟩
def B_check_place (f_is_spot : Nat) : Ss :=
  (.cons (.ife (.not (.call f_is_spot (.cons (.var 0) (.cons (.var 1) .nil)))) (
    (.cons .never .nil)) (.nil)) .nil)
def F_check_place (f_is_spot : Nat) : Df := ⟨2, 2, B_check_place f_is_spot⟩
def B_worth (f_check_system f_check_place f_worths_of : Nat) : Ss :=
  (.cons (.exp (.call f_check_system (.cons (.var 0) .nil))) 
  (.cons (.exp (.call f_check_place (.cons (.var 0) (.cons (.var 1) .nil)))) 
  (.cons (.ret (.call f_worths_of (.cons (.var 0) (.cons (.var 1) .nil)))) .nil)))
def F_worth (f_check_system f_check_place f_worths_of : Nat) : Df := ⟨2, 2, B_worth f_check_system f_check_place f_worths_of⟩
def B_slopes (f_check_system f_check_place f_slopes_of : Nat) : Ss :=
  (.cons (.exp (.call f_check_system (.cons (.var 0) .nil))) 
  (.cons (.exp (.call f_check_place (.cons (.var 0) (.cons (.var 1) .nil)))) 
  (.cons (.ret (.call f_slopes_of (.cons (.var 0) (.cons (.var 1) .nil)))) .nil)))
def F_slopes (f_check_system f_check_place f_slopes_of : Nat) : Df := ⟨2, 2, B_slopes f_check_system f_check_place f_slopes_of⟩
/-- a term that the library takes -/
structure OkL (n : Nat) (t : Tm) : Prop where
  len : t.1.length = n
  pos : ∀ k ∈ t.1, 0 ≤ k
  sum : t.1.sum ≤ 8
  nz : t.2 ≠ 0
def S_wholesN (f : Fn) : Prop := ∀ (ks : List Int) (n : Nat) h, ks.length = n → n ≤ 100 → f [.tup (ks.map .int), .int (n : Int)] h = .ok (.bl true) h
def S_termL (f : Fn) : Prop := ∀ (n : Nat) (t : Tm) h, OkL n t → 1 ≤ n → n ≤ 3 → f [ftm t, .int (n : Int)] h = .ok (.bl true) h
theorem foldl_min_nn : ∀ (ks : List Int) (z : Int), 0 ≤ z → (∀ k ∈ ks, 0 ≤ k) → 0 ≤ ks.foldl min z
  | [], z, h, _ => h
  | k :: ks, z, h, hk => by
    rw [List.foldl_cons]
    refine foldl_min_nn ks (min z k) ?_ fun x m => hk x (List.mem_cons_of_mem _ m)
    have := hk k List.mem_cons_self
    omega
section
variable {Δ : Nat → Fn} {gl : Nat → D}
theorem and_tt {a b : E} {ρ : En} {h h1 : Hh} (e : ev Δ gl a ρ h = .ok (.bl true) h1) : ev Δ gl (.and a b) ρ h = ev Δ gl b ρ h1 := by
  rw [ev, e]
  simp [asBl]
theorem or_ff {a b : E} {ρ : En} {h h1 : Hh} (e : ev Δ gl a ρ h = .ok (.bl false) h1) : ev Δ gl (.or a b) ρ h = ev Δ gl b ρ h1 := by
  rw [ev, e]
  simp [asBl]
theorem not_e {a : E} {ρ : En} {h h1 : Hh} {b : Bool} (e : ev Δ gl a ρ h = .ok (.bl b) h1) : ev Δ gl (.not a) ρ h = .ok (.bl (!b)) h1 := by
  rw [ev, e]
  simp [asBl]
theorem blsOf_rep : ∀ n : Nat, blsOf (List.replicate n (D.bl true)) = some (List.replicate n true)
  | 0 => rfl
  | n + 1 => by rw [List.replicate_succ, List.replicate_succ, blsOf, blsOf_rep n]
theorem s_are_wholesN {i : Nat} (hw : S_whole (Δ i)) : S_wholesN (run Δ gl (F_are_wholes i)) := by
  intro ks n h hl hn
  have k1 : kitB "tuple" "tuple" = some true := rfl
  have ei : evi Δ gl (.pln (.var 0)) [some (.tup (ks.map .int)), some (.int (n : Int)), none] h = .ok (ks.map .int, []) h := evi_plnT (by simp [ev])
  have el : ev Δ gl (.lc (.call i (.cons (.var 2) .nil)) (.nm 2) (.pln (.var 0)) .no [2]) [some (.tup (ks.map .int)), some (.int (n : Int)), none] h = alloc (.lst (ks.map fun _ => D.bl true)) h := by
    rw [ev_lc ei]
    refine (lc_fmE (gsOk_nil h) D.int (fun _ => some (.bl true)) ks [] (fun k hk => ?_) ?_).trans ?_
    · have w := hw k h
      exact lc_el (by simp only [wipeD, List.set, ev, evs, List.getElem?_cons_zero, List.getElem?_cons_succ, R.bind_ok, w])
    · have : (1000 : Nat) < sizeLine := by decide
      simp only [List.length_nil]
      omega
    · rw [List.nil_append]
      congr 2
      exact fm_some _ _
  have er : (ks.map fun _ => D.bl true) = List.replicate n (D.bl true) := by rw [← hl]; exact List.map_const' ..
  rw [er] at el
  have ea : ev Δ gl (.blt .all (.cons (.lc (.call i (.cons (.var 2) .nil)) (.nm 2) (.pln (.var 0)) .no [2]) .nil)) [some (.tup (ks.map .int)), some (.int (n : Int)), none] h = .ok (.bl true) (h ++ [.lst (List.replicate n (.bl true))]) := by
    rw [ev, evs, el, alloc, R.bind_ok, evs, R.bind_ok, R.bind_ok]
    simp only [bltD, listAt, get_end, blsOf_rep]
    congr 2
    simp
  have ln : ((ks.map D.int).length : Int) = (n : Int) := by simp [hl]
  have key : exs Δ gl (B_are_wholes i) [some (.tup (ks.map .int)), some (.int (n : Int)), none] h = .ok (.rt (.bl true)) (h ++ [.lst (List.replicate n (.bl true))]) := by
    unfold B_are_wholes
    refine exs_rt ?_
    rw [and_tt (h1 := h) (by simp only [ev, List.getElem?_cons_zero, R.bind_ok, isiD, tyD, k1]), and_tt (h1 := h) (by
      have ce : cmpD .Eq (.int (n : Int)) (.int (n : Int)) h = .ok (.bl (decide ((n : Int) = n))) h := rfl
      simp only [ev, evs, List.getElem?_cons_zero, List.getElem?_cons_succ, R.bind_ok, bltD, ln, ce]
      simp)]
    exact ea
  have r := run_rt (f := F_are_wholes i) (xs := [.tup (ks.map .int), .int (n : Int)]) rfl key
  rw [r]
  exact tidy_pre rfl
theorem s_is_term {w mp r z : Nat} (hw : S_wholesN (Δ w)) (h8 : gl mp = .int 8) (hr : S_ratio (Δ r)) (h0 : gl z = fr 0) : S_termL (run Δ gl (F_is_term w mp r z)) := by
  intro n t h ok hn hn3
  have k1 : kitB "tuple" "tuple" = some true := rfl
  have x0 : ixD (ftm t) (.int 0) h = .ok (.tup (t.1.map .int)) h := by simp [ixD, ftm]
  have x1 : ixD (ftm t) (.int 1) h = .ok (fr t.2) h := by simp [ixD, ftm]
  have ww := hw t.1 n h ok.len (by omega)
  have rr := hr t.2 h
  obtain ⟨k, ks, ek⟩ : ∃ k ks, t.1 = k :: ks := by
    cases e : t.1 with
    | nil => have := ok.len; rw [e] at this; simp at this; omega
    | cons k ks => exact ⟨k, ks, rfl⟩
  have mn : bltD .min [.tup (t.1.map .int)] h = .ok (.int (ks.foldl min k)) h := by
    show blt2 .min [.tup (t.1.map .int)] h = _
    have q : intsOf (t.1.map D.int) = some (k :: ks) := by rw [ek]; exact intsOf_k _
    simp only [blt2, q]
  have m0 : 0 ≤ ks.foldl min k := foldl_min_nn ks k (ok.pos k (by rw [ek]; exact List.mem_cons_self)) fun x m => ok.pos x (by rw [ek]; exact List.mem_cons_of_mem _ m)
  have sm : bltD .sum [.tup (t.1.map .int)] h = .ok (.int t.1.sum) h := by
    show blt2 .sum [.tup (t.1.map .int)] h = _
    simp only [blt2, intsOf_k]
  have e1 : ev Δ gl (.or (.not (.isi (.var 0) (.b "tuple"))) (.or (.cmp .NotEq (.blt .len (.cons (.var 0) .nil)) (.int 2)) (.not (.call w (.cons (.idx (.var 0) (.int 0)) (.cons (.var 1) .nil)))))) [some (ftm t), some (.int (n : Int))] h = .ok (.bl false) h := by
    have a : isiD h (ftm t) (.b "tuple") = .ok (.bl true) h := by simp only [isiD, tyD, ftm, k1]
    have b : bltD .len [ftm t] h = .ok (.int 2) h := rfl
    have c : cmpD .NotEq (.int 2) (.int 2) h = .ok (.bl false) h := rfl
    rw [or_ff (h1 := h) (by rw [not_e (b := true) (h1 := h) (by simp only [ev, List.getElem?_cons_zero, R.bind_ok, a])]; rfl), or_ff (h1 := h) (by simp only [ev, evs, List.getElem?_cons_zero, R.bind_ok, b, c]),
      not_e (b := true) (h1 := h) (by simp only [ev, evs, List.getElem?_cons_zero, List.getElem?_cons_succ, R.bind_ok, x0, ww])]
    rfl
  have e2 : ev Δ gl (.or (.cmp .Lt (.blt .min (.cons (.idx (.var 0) (.int 0)) .nil)) (.int 0)) (.cmp .Gt (.blt .sum (.cons (.idx (.var 0) (.int 0)) .nil)) (.glb mp))) [some (ftm t), some (.int (n : Int))] h = .ok (.bl false) h := by
    have a : cmpD .Lt (.int (ks.foldl min k)) (.int 0) h = .ok (.bl false) h := by
      show R.ok (D.bl (decide (ks.foldl min k < 0))) h = _
      rw [decide_eq_false (by omega)]
    have b : cmpD .Gt (.int t.1.sum) (.int 8) h = .ok (.bl false) h := by
      show R.ok (D.bl (decide (8 < t.1.sum))) h = _
      rw [decide_eq_false (by have := ok.sum; omega)]
    rw [or_ff (h1 := h) (by simp only [ev, evs, List.getElem?_cons_zero, R.bind_ok, x0, mn, a])]
    simp only [ev, evs, List.getElem?_cons_zero, R.bind_ok, x0, sm, h8, b]
  have e3 : ev Δ gl (.and (.call r (.cons (.idx (.var 0) (.int 1)) .nil)) (.cmp .NotEq (.idx (.var 0) (.int 1)) (.glb z))) [some (ftm t), some (.int (n : Int))] h = .ok (.bl true) h := by
    rw [and_tt (h1 := h) (by simp only [ev, evs, List.getElem?_cons_zero, R.bind_ok, x1, rr])]
    simp only [ev, List.getElem?_cons_zero, R.bind_ok, x1, h0, ne_fr, decide_eq_false ok.nz]
    rfl
  have key : exs Δ gl (B_is_term w mp r z) [some (ftm t), some (.int (n : Int))] h = .ok (.rt (.bl true)) h := by
    unfold B_is_term
    refine (exs_nx ((ex_ifF e1).trans (exs_nil _ _))).trans ?_
    refine (exs_nx ((ex_ifF e2).trans (exs_nil _ _))).trans ?_
    exact exs_rt e3
  have q := run_rt (f := F_is_term w mp r z) (xs := [ftm t, .int (n : Int)]) rfl key
  rw [q]
  exact tidy_self rfl
end
end HS

/-! Forms of several unknowns: the checks of forms. -/
namespace HS
open PySem L2
structure OkFm (n : Nat) (F : List Tm) : Prop where
  t : ∀ t ∈ F, OkL n t
  s : F.Pairwise fun a b => a.1 < b.1
  l : F.length ≤ 60
def S_formL (f : Fn) : Prop := ∀ (n : Nat) (F : List Tm) h, OkFm n F → 1 ≤ n → n ≤ 3 → f [ffm F, .int (n : Int)] h = .ok (.bl true) h
theorem zip_lt : ∀ {F : List Tm}, (F.Pairwise fun a b => a.1 < b.1) → ∀ q ∈ F.zip (F.drop 1), q.1.1 < q.2.1
  | [], _, q, m => by simp at m
  | [a], _, q, m => by simp at m
  | a :: b :: F, h, q, m => by
    rw [List.pairwise_cons] at h
    rw [List.drop_succ_cons, List.drop_zero, List.zip_cons_cons] at m
    rcases List.mem_cons.mp m with rfl | m
    · exact h.1 b List.mem_cons_self
    · exact zip_lt h.2 q (by rw [List.drop_succ_cons, List.drop_zero]; exact m)
theorem pairs_ftm (A B : List Tm) : pairs (A.map ftm) (B.map ftm) = (A.zip B).map fun q => D.tup [ftm q.1, ftm q.2] := by
  unfold pairs
  rw [List.zip_map, List.map_map]
  rfl
section
variable {Δ : Nat → Fn} {gl : Nat → D}
/-- all(..) of a comprehension whose every item is True -/
theorem all_true {α : Type} {elt : E} {t : T} {it : It} {own : List Nat} {ρ : En} {h : Hh} (enc : α → D) (items : List α) (ei : evi Δ gl it ρ h = .ok (items.map enc, []) h) (hl : items.length ≤ 100)
    (hel : ∀ a ∈ items, ((asn Δ gl t (enc a) (wipeD ρ own) h).bind fun ρ1 h => (evt Δ gl .no ρ1 h).bind fun b h => if b = true then (ev Δ gl elt ρ1 h).bind fun y h => .ok (some y) h else .ok none h).calm = .ok (some (.bl true)) h) :
    ev Δ gl (.blt .all (.cons (.lc elt t it .no own) .nil)) ρ h = .ok (.bl true) (h ++ [.lst (List.replicate items.length (.bl true))]) := by
  have el : ev Δ gl (.lc elt t it .no own) ρ h = alloc (.lst (List.replicate items.length (.bl true))) h := by
    rw [ev_lc ei]
    refine (lc_fmE (gsOk_nil h) enc (fun _ => some (.bl true)) items [] hel ?_).trans ?_
    · have : (1000 : Nat) < sizeLine := by decide
      simp only [List.length_nil]
      omega
    · rw [List.nil_append]
      congr 2
      rw [fm_some]
      exact List.map_const' ..
  rw [ev, evs, el, alloc, R.bind_ok, evs, R.bind_ok, R.bind_ok]
  simp only [bltD, listAt, get_end, blsOf_rep]
  congr 2
  simp
theorem s_is_form {i : Nat} (ht : S_termL (Δ i)) : S_formL (run Δ gl (F_is_form i)) := by
  intro n F h ok hn hn3
  have k1 : kitB "tuple" "tuple" = some true := rfl
  have a : ∀ h, isiD h (ffm F) (.b "tuple") = .ok (.bl true) h := fun h => by simp only [isiD, tyD, ffm, k1]
  have e1 := all_true (Δ := Δ) (gl := gl) (elt := .call i (.cons (.var 2) (.cons (.var 1) .nil))) (t := .nm 2) (it := .pln (.var 0)) (own := [2]) (ρ := [some (ffm F), some (.int (n : Int)), none, none, none]) (h := h) ftm F (evi_plnT (by simp [ev, ffm])) (by have := ok.l; omega) (fun t hm => by
    have w := ht n t h (ok.t t hm) hn hn3
    exact lc_el (by simp only [wipeD, List.set, ev, evs, List.getElem?_cons_zero, List.getElem?_cons_succ, R.bind_ok, w]))
  have es : ∀ h, slD (ffm F) (some 1) none h = .ok (.tup ((F.drop 1).map ftm)) h := fun h => by
    have c : cutD (F.map ftm) (some ((1 : Nat) : Int)) none = (F.map ftm).drop 1 := by
      cases F with
      | nil => rfl
      | cons x F => exact cut_from _ 1 (by simp)
    simp only [ffm, slD, List.map_drop]
    rw [← c]
    rfl
  generalize eh1 : h ++ [C.lst (List.replicate F.length (.bl true))] = h1 at e1
  have e2 := all_true (Δ := Δ) (gl := gl) (elt := .cmp .Lt (.idx (.var 3) (.int 0)) (.idx (.var 4) (.int 0))) (t := .tup (.cons (.nm 3) (.cons (.nm 4) .nil))) (it := .zip (.var 0) (.slc (.var 0) (.so (.int 1)) .no)) (own := [3, 4]) (ρ := [some (ffm F), some (.int (n : Int)), none, none, none]) (h := h1)
    (fun q : Tm × Tm => D.tup [ftm q.1, ftm q.2]) (F.zip (F.drop 1)) (by
      rw [← pairs_ftm]
      exact evi_zipT (by simp [ev, ffm]) (by simp only [ev, evo, getI, List.getElem?_cons_zero, R.bind_ok, es])) (by
      have := ok.l
      rw [List.length_zip]
      omega) (fun q hq => by
      have lt := zip_lt ok.s q hq
      have x : ∀ t : Tm, ixD (ftm t) (.int 0) h1 = .ok (.tup (t.1.map .int)) h1 := fun t => by simp [ixD, ftm]
      have c : cmpD .Lt (.tup (q.1.1.map .int)) (.tup (q.2.1.map .int)) h1 = .ok (.bl true) h1 := by
        simp only [cmpD, intsOf_k, lex_lt, decide_eq_true lt]
      simp only [wipeD, asn, asns, List.set, R.bind_ok, evt, if_true, ev, List.getElem?_cons_zero, List.getElem?_cons_succ, x, c, R.calm_ok])
  have c1 : ev Δ gl (.or (.not (.isi (.var 0) (.b "tuple"))) (.not (.blt .all (.cons (.lc (.call i (.cons (.var 2) (.cons (.var 1) .nil))) (.nm 2) (.pln (.var 0)) .no [2]) .nil)))) [some (ffm F), some (.int (n : Int)), none, none, none] h = .ok (.bl false) h1 := by
    rw [or_ff (h1 := h) (by rw [not_e (b := true) (h1 := h) (by simp only [ev, List.getElem?_cons_zero, R.bind_ok, a])]; rfl), not_e e1]
    rfl
  have key : exs Δ gl (B_is_form i) [some (ffm F), some (.int (n : Int)), none, none, none] h = .ok (.rt (.bl true)) (h1 ++ [.lst (List.replicate (F.zip (F.drop 1)).length (.bl true))]) := by
    unfold B_is_form
    refine (exs_nx ((ex_ifF c1).trans (exs_nil _ _))).trans ?_
    exact exs_rt e2
  have q := run_rt (f := F_is_form i) (xs := [ffm F, .int (n : Int)]) rfl key
  rw [q, ← eh1, List.append_assoc]
  exact tidy_pre rfl
end
end HS

/-! Forms of several unknowns: systems, places, the two questions. -/
namespace HS
open PySem L2
structure OkSys (n : Nat) (S : List (List Tm)) : Prop where
  len : S.length = n
  n1 : 1 ≤ n
  n3 : n ≤ 3
  f : ∀ F ∈ S, OkFm n F
def S_formedL (f : Fn) : Prop := ∀ (n : Nat) (S : List (List Tm)) h, OkSys n S → f [sysD S] h = .ok (.bl true) h
def S_areJ (f : Fn) : Prop := ∀ (p : List Rat) h, p.length ≤ 100 → f [.tup (p.map fr)] h = .ok (.bl true) h
def S_spotJ (f : Fn) : Prop := ∀ (S : List (List Tm)) (p : List Rat) h, p.length ≤ 100 → S.length = p.length → f [sysD S, .tup (p.map fr)] h = .ok (.bl true) h
def S_csys (f : Fn) : Prop := ∀ (n : Nat) (S : List (List Tm)) h, OkSys n S → f [sysD S] h = .ok .non h
def S_cplace (f : Fn) : Prop := ∀ (S : List (List Tm)) (p : List Rat) h, p.length ≤ 100 → S.length = p.length → f [sysD S, .tup (p.map fr)] h = .ok .non h
def S_dueL (f : Fn) : Prop := ∀ (n B X L : Nat) (S : List (List Tm)) (p : List Rat) h, OkSys n S → OkS n B L S → OkPl n X p → L ≤ 60 → SzF L B X → f [sysD S, .tup (p.map fr)] h = .ok (.tup (S.map fun F => fr (fs p F))) h
def S_tabL (f : Fn) : Prop := ∀ (n B X L : Nat) (S : List (List Tm)) (p : List Rat) h, OkSys n S → OkS n B L S → OkPl n X p → L ≤ 60 → SzF L B X → f [sysD S, .tup (p.map fr)] h = .ok (tabF n p S) h
section
variable {Δ : Nat → Fn} {gl : Nat → D}
theorem s_is_formed {g i : Nat} (h3 : gl g = .int 3) (hf : S_formL (Δ i)) : S_formedL (run Δ gl (F_is_formed g i)) := by
  intro n S h ok
  have k1 : kitB "tuple" "tuple" = some true := rfl
  have a : isiD h (sysD S) (.b "tuple") = .ok (.bl true) h := by simp only [isiD, tyD, sysD, k1]
  have l : ∀ h, bltD .len [sysD S] h = .ok (.int (n : Int)) h := fun h => by
    show R.ok (D.int ((S.map ffm).length : Int)) h = _
    rw [List.length_map, ok.len]
  have e1 := all_true (Δ := Δ) (gl := gl) (elt := .call i (.cons (.var 1) (.cons (.blt .len (.cons (.var 0) .nil)) .nil))) (t := .nm 1) (it := .pln (.var 0)) (own := [1]) (ρ := [some (sysD S), none]) (h := h) ffm S (evi_plnT (by simp [ev, sysD])) (by have := ok.len; have := ok.n3; omega) (fun F hm => by
    have w := hf n F h (ok.f F hm) ok.n1 ok.n3
    exact lc_el (by simp only [wipeD, List.set, ev, evs, List.getElem?_cons_zero, List.getElem?_cons_succ, R.bind_ok, l, w]))
  have c2 : ev Δ gl (.cmp2 .LtE .LtE (.int 1) (.blt .len (.cons (.var 0) .nil)) (.glb g)) [some (sysD S), none] h = .ok (.bl true) h := by
    have q1 : cmpD .LtE (.int 1) (.int (n : Int)) h = .ok (.bl true) h := by
      show R.ok (D.bl (decide ((1 : Int) ≤ n))) h = _
      rw [decide_eq_true (by have := ok.n1; omega)]
    have q2 : cmpD .LtE (.int (n : Int)) (.int 3) h = .ok (.bl true) h := by
      show R.ok (D.bl (decide ((n : Int) ≤ 3))) h = _
      rw [decide_eq_true (by have := ok.n3; omega)]
    simp only [ev, evs, List.getElem?_cons_zero, R.bind_ok, l, q1, h3, q2]
  have c1 : ev Δ gl (.or (.not (.isi (.var 0) (.b "tuple"))) (.not (.cmp2 .LtE .LtE (.int 1) (.blt .len (.cons (.var 0) .nil)) (.glb g)))) [some (sysD S), none] h = .ok (.bl false) h := by
    rw [or_ff (h1 := h) (by rw [not_e (b := true) (h1 := h) (by simp only [ev, List.getElem?_cons_zero, R.bind_ok, a])]; rfl), not_e c2]
    rfl
  have key : exs Δ gl (B_is_formed g i) [some (sysD S), none] h = .ok (.rt (.bl true)) (h ++ [.lst (List.replicate S.length (.bl true))]) := by
    unfold B_is_formed
    refine (exs_nx ((ex_ifF c1).trans (exs_nil _ _))).trans ?_
    exact exs_rt e1
  have q := run_rt (f := F_is_formed g i) (xs := [sysD S]) rfl key
  rw [q]
  exact tidy_pre rfl
theorem s_are_ratiosJ {i : Nat} (hr : S_ratio (Δ i)) : S_areJ (run Δ gl (F_are_ratios i)) := by
  intro p h hl
  have k1 : kitB "tuple" "tuple" = some true := rfl
  have e1 := all_true (Δ := Δ) (gl := gl) (elt := .call i (.cons (.var 1) .nil)) (t := .nm 1) (it := .pln (.var 0)) (own := [1]) (ρ := [some (.tup (p.map fr)), none]) (h := h) fr p (evi_plnT (by simp [ev])) hl (fun q hm => by
    have w := hr q h
    exact lc_el (by simp only [wipeD, List.set, ev, evs, List.getElem?_cons_zero, List.getElem?_cons_succ, R.bind_ok, w]))
  have key : exs Δ gl (B_are_ratios i) [some (.tup (p.map fr)), none] h = .ok (.rt (.bl true)) (h ++ [.lst (List.replicate p.length (.bl true))]) := by
    unfold B_are_ratios
    refine exs_rt ?_
    rw [and_tt (h1 := h) (by simp only [ev, List.getElem?_cons_zero, R.bind_ok, isiD, tyD, k1])]
    exact e1
  have q := run_rt (f := F_are_ratios i) (xs := [.tup (p.map fr)]) rfl key
  rw [q]
  exact tidy_pre rfl
theorem s_is_spot {i : Nat} (ha : S_areJ (Δ i)) : S_spotJ (run Δ gl (F_is_spot i)) := by
  intro S p h hl he
  have w := ha p h hl
  have l1 : bltD .len [sysD S] h = .ok (.int (p.length : Int)) h := by
    show R.ok (D.int ((S.map ffm).length : Int)) h = _
    rw [List.length_map, he]
  have l2 : bltD .len [.tup (p.map fr)] h = .ok (.int (p.length : Int)) h := by
    show R.ok (D.int ((p.map fr).length : Int)) h = _
    rw [List.length_map]
  have c : cmpD .Eq (.int (p.length : Int)) (.int (p.length : Int)) h = .ok (.bl true) h := by
    show R.ok (D.bl (decide ((p.length : Int) = p.length))) h = _
    rw [decide_eq_true rfl]
  have key : exs Δ gl (B_is_spot i) [some (sysD S), some (.tup (p.map fr))] h = .ok (.rt (.bl true)) h := by
    unfold B_is_spot
    refine exs_rt ?_
    rw [and_tt (h1 := h) (by simp only [ev, evs, List.getElem?_cons_zero, List.getElem?_cons_succ, R.bind_ok, w])]
    simp only [ev, evs, List.getElem?_cons_zero, List.getElem?_cons_succ, R.bind_ok, l1, l2, c]
  have q := run_rt (f := F_is_spot i) (xs := [sysD S, .tup (p.map fr)]) rfl key
  rw [q]
  exact tidy_self rfl
theorem run_nx {f : Df} {xs : List D} {h h' : Hh} {ρ : En} (hl : xs.length = f.np) (e : exs Δ gl f.body (xs.map some ++ List.replicate (f.ns - xs.length) none) h = .ok (.nx ρ) h') : run Δ gl f xs h = tidy h .non h' := by
  unfold run
  rw [if_pos hl, e]
theorem s_check_system {i : Nat} (hf : S_formedL (Δ i)) : S_csys (run Δ gl (F_check_system i)) := by
  intro n S h ok
  have w := hf n S h ok
  have key : exs Δ gl (B_check_system i) [some (sysD S)] h = .ok (.nx [some (sysD S)]) h := by
    unfold B_check_system
    refine (exs_nx ((ex_ifF (h1 := h) ?_).trans (exs_nil _ _))).trans (exs_nil _ _)
    rw [not_e (b := true) (h1 := h) (by simp only [ev, evs, List.getElem?_cons_zero, R.bind_ok, w])]
    rfl
  rw [run_nx (f := F_check_system i) (xs := [sysD S]) rfl key]
  exact tidy_self rfl
theorem s_check_place {i : Nat} (hf : S_spotJ (Δ i)) : S_cplace (run Δ gl (F_check_place i)) := by
  intro S p h hl he
  have w := hf S p h hl he
  have key : exs Δ gl (B_check_place i) [some (sysD S), some (.tup (p.map fr))] h = .ok (.nx [some (sysD S), some (.tup (p.map fr))]) h := by
    unfold B_check_place
    refine (exs_nx ((ex_ifF (h1 := h) ?_).trans (exs_nil _ _))).trans (exs_nil _ _)
    rw [not_e (b := true) (h1 := h) (by simp only [ev, evs, List.getElem?_cons_zero, List.getElem?_cons_succ, R.bind_ok, w])]
    rfl
  rw [run_nx (f := F_check_place i) (xs := [sysD S, .tup (p.map fr)]) rfl key]
  exact tidy_self rfl
end
end HS

/-! Forms of several unknowns: worth, slopes. -/
namespace HS
open PySem L2
section
variable {Δ : Nat → Fn} {gl : Nat → D}
theorem duesD_flat (p : List Rat) (S : List (List Tm)) : (D.tup (S.map fun F => fr (fs p F))).flat = true := by
  simp only [D.flat]
  rw [D.flats_iff]
  intro d m
  obtain ⟨t, _, rfl⟩ := List.mem_map.mp m
  exact fr_flat _
theorem s_worth07 {i j k : Nat} (hc : S_csys (Δ i)) (hp : S_cplace (Δ j)) (hw : S_due07 (Δ k)) : S_dueL (run Δ gl (F_worth i j k)) := by
  intro n B X L S p h oy os op hL sz
  have a := hc n S h oy
  have b := hp S p h (by have := op.len; have := oy.n3; omega) (by rw [oy.len, op.len])
  have c := hw n B X L S p h os op hL sz
  have key : exs Δ gl (B_worth i j k) [some (sysD S), some (.tup (p.map fr))] h = .ok (.rt (.tup (S.map fun F => fr (fs p F)))) h := by
    unfold B_worth
    refine (exs_nx (ex_exp (d := .non) (h1 := h) (by simp only [ev, evs, List.getElem?_cons_zero, R.bind_ok, a]))).trans ?_
    refine (exs_nx (ex_exp (d := .non) (h1 := h) (by simp only [ev, evs, List.getElem?_cons_zero, List.getElem?_cons_succ, R.bind_ok, b]))).trans ?_
    exact exs_rt (by simp only [ev, evs, List.getElem?_cons_zero, List.getElem?_cons_succ, R.bind_ok, c])
  have q := run_rt (f := F_worth i j k) (xs := [sysD S, .tup (p.map fr)]) rfl key
  rw [q]
  exact tidy_self (duesD_flat _ _)
theorem s_slopes07 {i j k : Nat} (hc : S_csys (Δ i)) (hp : S_cplace (Δ j)) (hw : S_tab (Δ k)) : S_tabL (run Δ gl (F_slopes i j k)) := by
  intro n B X L S p h oy os op hL sz
  have a := hc n S h oy
  have b := hp S p h (by have := op.len; have := oy.n3; omega) (by rw [oy.len, op.len])
  have c := hw n B X L S p h os op hL sz
  have key : exs Δ gl (B_slopes i j k) [some (sysD S), some (.tup (p.map fr))] h = .ok (.rt (tabF n p S)) h := by
    unfold B_slopes
    refine (exs_nx (ex_exp (d := .non) (h1 := h) (by simp only [ev, evs, List.getElem?_cons_zero, R.bind_ok, a]))).trans ?_
    refine (exs_nx (ex_exp (d := .non) (h1 := h) (by simp only [ev, evs, List.getElem?_cons_zero, List.getElem?_cons_succ, R.bind_ok, b]))).trans ?_
    exact exs_rt (by simp only [ev, evs, List.getElem?_cons_zero, List.getElem?_cons_succ, R.bind_ok, c])
  have q := run_rt (f := F_slopes i j k) (xs := [sysD S, .tup (p.map fr)]) rfl key
  rw [q]
  exact tidy_self (tabF_flat _ _ _)
end
end HS

/-! Forms of several unknowns: gathering terms of unlike powers. -/
namespace HS
open PySem L2
theorem fold_self : ∀ (ts rs : List Tm), ((rs ++ ts).map (·.1)).Nodup → ts.foldl accR rs = rs ++ ts
  | [], rs, _ => by simp
  | t :: ts, rs, nd => by
    have e : accR rs t = rs ++ [t] := by
      have q : findR rs t.1 = none := findR_none.mpr fun m => by
        rw [List.map_append, List.nodup_append] at nd
        exact nd.2.2 _ m _ (by simp) rfl
      unfold accR
      rw [q]
      rfl
    rw [List.foldl_cons, e, fold_self ts (rs ++ [t]) (by simpa using nd)]
    simp
theorem gat_self {ts : List Tm} (nd : (ts.map (·.1)).Nodup) : gat ts = ts := by
  unfold gat
  rw [fold_self ts [] (by simpa using nd)]
  rfl
/-- what is sorted and unlike stays as it is -/
theorem fw_self {ts : List Tm} (h : ts.Pairwise fun a b => a.1 < b.1) (h0 : ∀ t ∈ ts, t.2 ≠ 0) : fw ts = ts := by
  have nd : (ts.map (·.1)).Nodup := by
    unfold List.Nodup
    rw [List.pairwise_map]
    exact h.imp fun {a b} l e => by rw [e] at l; exact List.lt_irrefl _ l
  have g := gat_self nd
  have f : ts.filter nz = ts := List.filter_eq_self.mpr fun t m => by
    unfold nz
    exact decide_eq_true (h0 t m)
  have p := fw_perm ts
  rw [g, f] at p
  refine sorted_one p (fw_sorted ts) (h.imp fun {a b} l => ?_) (fw_nodup ts)
  exact List.not_lt.mp fun z => List.lt_irrefl _ (List.lt_trans l z)
end HS

/-! Forms of several unknowns: a form times a power of one unknown. -/
namespace HS
open PySem L2
theorem pow_addR (x : Rat) (i : Nat) : ∀ j : Nat, x ^ (i + j) = x ^ i * x ^ j
  | 0 => by rw [Nat.add_zero, Rat.pow_zero]; grind
  | j + 1 => by
    rw [← Nat.add_assoc, Rat.pow_succ, pow_addR x i j, Rat.pow_succ]
    grind
theorem rz_add {x : Rat} {i j : Int} (h0 : 0 ≤ i) (h1 : 0 ≤ j) : rz x (i + j) = rz x i * rz x j := by
  unfold rz
  rw [Int.toNat_add h0 h1, pow_addR]
/-- the powers of one term, times that of the unknown a -/
theorem mon_shift : ∀ (ks : List Int) (p : List Rat) (a : Nat) (k : Int), a < ks.length → ks.length = p.length → (∀ x ∈ ks, 0 ≤ x) → 0 ≤ k → mon (ks.set a (ks.getD a 0 + k)) p = rz (p.getD a 0) k * mon ks p
  | [], _, _, _, h, _, _, _ => by simp at h
  | _ :: _, [], _, _, _, h, _, _ => by simp at h
  | c :: ks, x :: p, 0, k, _, hl, h0, hk => by
    have e1 : (c :: ks).getD 0 0 = c := rfl
    have e2 : (x :: p).getD 0 0 = x := rfl
    rw [e1, e2, List.set_cons_zero, mon, mon, rz_add (h0 c List.mem_cons_self) hk]
    grind
  | c :: ks, x :: p, a + 1, k, h, hl, h0, hk => by
    have e1 : (c :: ks).getD (a + 1) 0 = ks.getD a 0 := by simp [List.getD]
    have e2 : (x :: p).getD (a + 1) 0 = p.getD a 0 := by simp [List.getD]
    rw [e1, e2, List.set_cons_succ, mon, mon, mon_shift ks p a k (by simpa using h) (by simpa using hl) (fun y m => h0 y (List.mem_cons_of_mem _ m)) hk]
    grind
def shT (a : Nat) (k : Int) (t : Tm) : Tm := (t.1.set a (t.1.getD a 0 + k), t.2)
theorem fs_shift {n B a : Nat} {k : Int} {p : List Rat} (ha : a < n) (hp : p.length = n) (hk : 0 ≤ k) : ∀ F : List Tm, (∀ t ∈ F, OkT n B t) → fs p (F.map (shT a k)) = rz (p.getD a 0) k * fs p F
  | [], _ => by rw [List.map_nil, fs]; grind
  | t :: F, h => by
    have ot := h t List.mem_cons_self
    have m := mon_shift t.1 p a k (by rw [ot.len]; exact ha) (by rw [ot.len, hp]) (fun x m => (ot.pos x m).1) hk
    rw [List.map_cons, fs, fs, fs_shift ha hp hk F fun x m => h x (List.mem_cons_of_mem _ m)]
    show t.2 * mon (t.1.set a (t.1.getD a 0 + k)) p + _ = _
    rw [m]
    grind
end HS

/-! Forms of several unknowns: the slopes of a form times a power of one unknown. -/
namespace HS
open PySem L2
theorem slF_cons (p : List Rat) (t : Tm) (F : List Tm) (u : Nat) : slF p (t :: F) u = (match gt1 u t with | some r => r.2 * mon r.1 p | none => 0) + slF p F u := by
  unfold slF grn
  rw [List.filterMap_cons]
  cases gt1 u t with
  | none => simp only; grind
  | some r => simp only [fs]
theorem getD_set_eq {ks : List Int} {a : Nat} {v : Int} (h : a < ks.length) : (ks.set a v).getD a 0 = v := by simp [List.getD, h]
theorem getD_set_ne {ks : List Int} {a u : Nat} {v : Int} (h : a ≠ u) : (ks.set a v).getD u 0 = ks.getD u 0 := by simp [List.getD, List.getElem?_set_ne h]
theorem getD_mem {ks : List Int} {a : Nat} (h : a < ks.length) : ks.getD a 0 ∈ ks := by
  have : ks.getD a 0 = ks[a] := by simp [List.getD, h]
  rw [this]; exact List.getElem_mem h
theorem slope_same {n B a : Nat} {k : Int} {p : List Rat} (ha : a < n) (hp : p.length = n) (hk : 1 ≤ k) : ∀ F : List Tm, (∀ t ∈ F, OkT n B t) →
    slF p (F.map (shT a k)) a = rz (p.getD a 0) k * slF p F a + (k : Rat) * rz (p.getD a 0) (k - 1) * fs p F
  | [], _ => by
    have e : slF p [] a = 0 := rfl
    rw [List.map_nil, fs, e]; grind
  | t :: F, h => by
    have ot := h t List.mem_cons_self
    have ih := slope_same ha hp hk F fun x m => h x (List.mem_cons_of_mem _ m)
    have la : a < t.1.length := by rw [ot.len]; exact ha
    have lp : t.1.length = p.length := by rw [ot.len, hp]
    have nn : ∀ x ∈ t.1, 0 ≤ x := fun x m => (ot.pos x m).1
    have p0 := nn _ (getD_mem la)
    rw [List.map_cons, slF_cons, slF_cons, fs, ih]
    generalize hc : t.1.getD a 0 = c at p0
    have e1 : gt1 a (shT a k t) = some (t.1.set a (c + (k - 1)), t.2 * ((c + k : Int) : Rat)) := by
      unfold gt1 shT
      simp only [hc, getD_set_eq la]
      rw [if_pos (by omega), List.set_set, show c + k - 1 = c + (k - 1) by omega]
    have m1 := mon_shift t.1 p a (k - 1) la lp nn (by omega)
    rw [hc] at m1
    have rk : rz (p.getD a 0) k = rz (p.getD a 0) (k - 1) * rz (p.getD a 0) 1 := by
      rw [← rz_add (by omega) (by decide)]
      congr 1
      omega
    have ck : ((c + k : Int) : Rat) = (c : Rat) + (k : Rat) := Rat.intCast_add c k
    rw [e1]
    simp only [m1]
    by_cases c0 : 0 < c
    · have e2 : gt1 a t = some (t.1.set a (c - 1), t.2 * (c : Rat)) := by unfold gt1; rw [hc, if_pos c0]
      have m2 := mon_shift (t.1.set a (c - 1)) p a 1 (by simpa using la) (by simpa using lp) (fun x m => by
        rcases List.mem_or_eq_of_mem_set m with m | rfl
        · exact nn x m
        · omega) (by decide)
      rw [getD_set_eq la, List.set_set, show c - 1 + 1 = c by omega] at m2
      have m3 : t.1.set a c = t.1 := by
        have : t.1[a] = c := by
          have : t.1.getD a 0 = t.1[a] := by simp [List.getD, la]
          rw [← this, hc]
        rw [← this]
        exact List.set_getElem_self la
      rw [m3] at m2
      rw [e2]
      simp only
      rw [rk, ck, m2]
      grind
    · have e2 : gt1 a t = none := by unfold gt1; rw [hc, if_neg c0]
      have z : c = 0 := by omega
      rw [e2, ck, z]
      simp only
      have : ((0 : Int) : Rat) = 0 := rfl
      rw [this]
      grind
end HS

/-! Forms of several unknowns: the slopes along another unknown. -/
namespace HS
open PySem L2
theorem slope_other {n B a u : Nat} {k : Int} {p : List Rat} (ha : a < n) (hu : u < n) (ne : a ≠ u) (hp : p.length = n) (hk : 0 ≤ k) : ∀ F : List Tm, (∀ t ∈ F, OkT n B t) →
    slF p (F.map (shT a k)) u = rz (p.getD a 0) k * slF p F u
  | [], _ => by
    have e : slF p [] u = 0 := rfl
    rw [List.map_nil, e]; grind
  | t :: F, h => by
    have ot := h t List.mem_cons_self
    have ih := slope_other ha hu ne hp hk F fun x m => h x (List.mem_cons_of_mem _ m)
    have la : a < t.1.length := by rw [ot.len]; exact ha
    have lp : t.1.length = p.length := by rw [ot.len, hp]
    have nn : ∀ x ∈ t.1, 0 ≤ x := fun x m => (ot.pos x m).1
    rw [List.map_cons, slF_cons, slF_cons, ih]
    by_cases c0 : 0 < t.1.getD u 0
    · have e1 : gt1 u (shT a k t) = some ((t.1.set u (t.1.getD u 0 - 1)).set a (t.1.getD a 0 + k), t.2 * (t.1.getD u 0 : Rat)) := by
        unfold gt1 shT
        simp only [getD_set_ne ne]
        rw [if_pos c0, List.set_comm _ _ ne]
      have e2 : gt1 u t = some (t.1.set u (t.1.getD u 0 - 1), t.2 * (t.1.getD u 0 : Rat)) := by unfold gt1; rw [if_pos c0]
      have m := mon_shift (t.1.set u (t.1.getD u 0 - 1)) p a k (by simpa using la) (by simpa using lp) (fun x m => by
        rcases List.mem_or_eq_of_mem_set m with m | rfl
        · exact nn x m
        · omega) hk
      rw [getD_set_ne (Ne.symm ne)] at m
      rw [e1, e2]
      simp only [m]
      grind
    · have e1 : gt1 u (shT a k t) = none := by
        unfold gt1 shT
        simp only [getD_set_ne ne]
        rw [if_neg c0]
      have e2 : gt1 u t = none := by unfold gt1; rw [if_neg c0]
      rw [e1, e2]
      grind
end HS

/-! Forms of several unknowns: the law's places. -/
namespace HS
open PySem L2
theorem lc_drawG {α : Type} {el : D → Hh → R (Option D)} {n : Nat} (enc : α → D) (P : α → Prop) :
    ∀ (items acc : List D) (h : Hh), (∀ d ∈ items, ∀ h, UAt n N0 h → ∃ a h', el d h = .ok (some (enc a)) h' ∧ P a ∧ Up n N0 h h') → UAt n N0 h → acc.length + items.length < 1000 →
      ∃ (as : List α) (h' : Hh), lcL [] el items acc h = .ok (.ref h'.length) (h' ++ [.lst (acc ++ as.map enc)]) ∧ as.length = items.length ∧ (∀ a ∈ as, P a) ∧ Up n N0 h h'
  | [], acc, h, _, ua, hl => ⟨[], h, by
      have sl : acc.length ≤ sizeLine := Nat.le_trans (show acc.length ≤ 1000 by simp at hl; omega) (by decide)
      simp [lcL, gsOk_nil, sl, alloc], rfl, by simp, .refl ua⟩
  | d :: items, acc, h, hel, ua, hl => by
    obtain ⟨q, h1, e1, sq, u1⟩ := hel d List.mem_cons_self h ua
    obtain ⟨Q, h2, e2, lq, sQ, u2⟩ := lc_drawG enc P items (acc ++ [enc q]) h1 (fun x m => hel x (List.mem_cons_of_mem _ m)) u1.at_ (by simp at hl ⊢; omega)
    refine ⟨q :: Q, h2, ?_, by simp [lq], ?_, u1.trans u2⟩
    · have sl : acc.length < sizeLine := Nat.lt_of_lt_of_le (show acc.length < 1001 by simp at hl; omega) (by decide)
      unfold lcL
      rw [if_pos ⟨gsOk_nil _, sl⟩, e1]
      simp only [R.bind_ok]
      rw [e2]
      simp
    · intro y hy
      rcases List.mem_cons.mp hy with rfl | hy
      · exact sq
      · exact sQ y hy
theorem Up.push7 {n : Nat} {h h' : Hh} {c : C} (u : Up n N0 h h') : Up n N0 h (h' ++ [c]) :=
  ⟨u.at_.app, Nat.le_trans u.len (by simp), fun k hk hl => by rw [List.getElem?_append_left (Nat.lt_of_lt_of_le hl u.len)]; exact u.oth k hk hl⟩
def B_law_drawn_place (f__law_small : Nat) : Ss :=
  (.cons (.ret (.blt .tuple (.cons (.lc (.call f__law_small (.cons (.var 0) .nil)) (.nm 2) (.rng (.cons (.var 1) .nil)) .no [2]) .nil))) .nil)
def F_law_drawn_place (f__law_small : Nat) : Df := ⟨2, 3, B_law_drawn_place f__law_small⟩
def L_law_drawn_form_0 (f__law_pull f__law_small f__law_f : Nat) : Ss :=
    (.cons (.asg (.nm 5) (.ife (.or (.cmp .NotEq (.var 4) (.var 2)) (.cmp .Eq (.call f__law_pull (.cons (.var 0) (.cons (.int 6) .nil))) (.int 0))) (.call f__law_small (.cons (.var 0) .nil)) (.call f__law_f (.cons (.bin .add (.int 2) (.call f__law_pull (.cons (.var 0) (.cons (.int 4) .nil)))) (.cons (.bin .add (.int 1) (.call f__law_pull (.cons (.var 0) (.cons (.int 2) .nil)))) .nil))))) 
    (.cons (.exp (.app (.var 3) (.tup (.cons (.blt .tuple (.cons (.lc (.blt .int (.cons (.cmp .Eq (.var 6) (.var 4)) .nil)) (.nm 6) (.rng (.cons (.var 1) .nil)) .no [6]) .nil)) (.cons (.var 5) .nil))))) .nil))
def L_law_drawn_form_1 (f__law_pull : Nat) : Ss :=
      (.cons (.aug (.var 8) (.call f__law_pull (.cons (.var 0) (.cons (.var 1) .nil))) 1) .nil)
def L_law_drawn_form_2 (f__law_pull f__law_f : Nat) : Ss :=
    (.cons (.asg (.nm 8) (.bin .mul (.lst (.cons (.int 0) .nil)) (.var 1))) 
    (.cons (.fr (.nm 9) (.rng (.cons (.bin .add (.int 2) (.call f__law_pull (.cons (.var 0) (.cons (.int 3) .nil)))) .nil)) (L_law_drawn_form_1 f__law_pull)) 
    (.cons (.exp (.app (.var 3) (.tup (.cons (.blt .tuple (.cons (.var 8) .nil)) (.cons (.call f__law_f (.cons (.bin .sub (.call f__law_pull (.cons (.var 0) (.cons (.int 9) .nil))) (.int 4)) (.cons (.bin .add (.int 1) (.call f__law_pull (.cons (.var 0) (.cons (.int 6) .nil)))) .nil))) .nil))))) .nil)))
def B_law_drawn_form (f__law_small f__law_pull f__law_f f__law_gathered : Nat) : Ss :=
  (.cons (.asg (.nm 3) (.lst (.cons (.tup (.cons (.bin .mul (.tup (.cons (.int 0) .nil)) (.var 1)) (.cons (.call f__law_small (.cons (.var 0) .nil)) .nil))) .nil))) 
  (.cons (.fr (.nm 4) (.rng (.cons (.var 1) .nil)) (L_law_drawn_form_0 f__law_pull f__law_small f__law_f)) 
  (.cons (.fr (.nm 7) (.rng (.cons (.call f__law_pull (.cons (.var 0) (.cons (.int 4) .nil))) .nil)) (L_law_drawn_form_2 f__law_pull f__law_f)) 
  (.cons (.ret (.call f__law_gathered (.cons (.var 3) .nil))) .nil))))
def F_law_drawn_form (f__law_small f__law_pull f__law_f f__law_gathered : Nat) : Df := ⟨3, 10, B_law_drawn_form f__law_small f__law_pull f__law_f f__law_gathered⟩
def B_law_drawn_system (f__law_pull f__law_drawn_form : Nat) : Ss :=
  (.cons (.asg (.nm 2) (.bin .add (.int 1) (.call f__law_pull (.cons (.var 0) (.cons (.var 1) .nil))))) 
  (.cons (.ret (.blt .tuple (.cons (.lc (.call f__law_drawn_form (.cons (.var 0) (.cons (.var 2) (.cons (.var 3) .nil)))) (.nm 3) (.rng (.cons (.var 2) .nil)) .no [3]) .nil))) .nil))
def F_law_drawn_system (f__law_pull f__law_drawn_form : Nat) : Df := ⟨2, 4, B_law_drawn_system f__law_pull f__law_drawn_form⟩
def S_place7 (f : Fn) : Prop := ∀ (n m : Nat) h, UAt n N0 h → 1 ≤ m → m ≤ 3 → ∃ p h', f [.ref n, .int (m : Int)] h = .ok (.tup (p.map fr)) h' ∧ OkPl m 3 p ∧ Up n N0 h h'
section
variable {Δ : Nat → Fn} {gl : Nat → D}
theorem s_law_drawn_place {i : Nat} (hs : S_small (Δ i)) : S_place7 (run Δ gl (F_law_drawn_place i)) := by
  intro n m h ua m1 m3
  have e62 : small62 (m : Int) = true := small_le (by omega) (by omega)
  obtain ⟨p, h1, e, lp, sp, u⟩ := lc_drawG (n := n) (el := fun d h => ((asn Δ gl (.nm 2) d (wipeD [some (.ref n), some (.int (m : Int)), none] [2]) h).bind fun ρ1 h => (evt Δ gl .no ρ1 h).bind fun b h => if b = true then (ev Δ gl (.call i (.cons (.var 0) .nil)) ρ1 h).bind fun y h => .ok (some y) h else .ok none h).calm)
    fr (Sz 3) (upFrom 0 m) [] h (fun d _ h ua => by
      obtain ⟨q, h', e, sq, u⟩ := hs n h ua
      exact ⟨q, h', lc_el (by simp only [wipeD, List.set, ev, evs, List.getElem?_cons_zero, List.getElem?_cons_succ, R.bind_ok, e]), sq, u⟩) ua (by simp [upFrom]; omega)
  have key : exs Δ gl (B_law_drawn_place i) [some (.ref n), some (.int (m : Int)), none] h = .ok (.rt (.tup (p.map fr))) (h1 ++ [.lst (p.map fr)]) := by
    unfold B_law_drawn_place
    refine exs_rt ?_
    rw [ev, evs, ev_lc (evi_rng1 (h1 := h) (k := m) (by simp only [evs, ev, List.getElem?_cons_zero, List.getElem?_cons_succ, R.bind_ok]) e62), e, R.bind_ok, evs, R.bind_ok, R.bind_ok, List.nil_append]
    simp only [bltD, listAt, get_end]
  have fl : (D.tup (p.map fr)).flat = true := by
    simp only [D.flat]
    rw [D.flats_iff]
    intro d m
    obtain ⟨t, _, rfl⟩ := List.mem_map.mp m
    exact fr_flat _
  obtain ⟨h2, t1, t2⟩ := tidy_up fl ua (Nat.le_refl N0) u.push7
  refine ⟨p, h2, ?_, ⟨by rw [lp]; simp [upFrom], sp⟩, t2⟩
  rw [run_rt (f := F_law_drawn_place i) (xs := [.ref n, .int (m : Int)]) rfl key]
  exact t1
end
end HS

/-! Forms of several unknowns: the law's forms (begun). -/
namespace HS
open PySem L2
/-- the powers of one unknown alone -/
def unitP (m a : Nat) : List Int := (List.range m).map fun s => if s = a then 1 else 0
theorem unitP_len (m a : Nat) : (unitP m a).length = m := by simp [unitP]
theorem unitP_01 (m a : Nat) : ∀ k ∈ unitP m a, 0 ≤ k ∧ k ≤ 1 := by
  intro k hk
  obtain ⟨s, _, rfl⟩ := List.mem_map.mp hk
  split <;> omega
/-- a list of ours beside the sack: it stands at T, the sack moves on -/
structure UpT (n T : Nat) (xs : List D) (h h' : Hh) : Prop where
  up : Up n N0 h h'
  at_ : h'[T]? = some (.lst xs)
  ne : T ≠ n
  new : h.length ≤ T
theorem UpT.draw {n T : Nat} {xs : List D} {h h' h'' : Hh} (x : UpT n T xs h h') (u : Up n N0 h' h'') : UpT n T xs h h'' :=
  ⟨x.up.trans u, by rw [u.oth T x.ne (List.getElem?_eq_some_iff.mp x.at_).1]; exact x.at_, x.ne, x.new⟩
theorem UpT.put {n T : Nat} {xs ys : List D} {h h' : Hh} (x : UpT n T xs h h') : UpT n T ys h (h'.set T (.lst ys)) := by
  have lt := (List.getElem?_eq_some_iff.mp x.at_).1
  obtain ⟨zs, e, u⟩ := x.up.at_
  refine ⟨⟨⟨zs, by rw [List.getElem?_set_ne x.ne]; exact e, u⟩, by rw [List.length_set]; exact x.up.len, fun k hk hl => ?_⟩, List.getElem?_set_self lt, x.ne, x.new⟩
  rw [List.getElem?_set_ne (by have := x.new; omega)]
  exact x.up.oth k hk hl
theorem UpT.app {n T : Nat} {xs : List D} {h h' : Hh} {c : C} (x : UpT n T xs h h') : UpT n T xs h (h' ++ [c]) :=
  ⟨x.up.push7, by rw [List.getElem?_append_left (List.getElem?_eq_some_iff.mp x.at_).1]; exact x.at_, x.ne, x.new⟩
end HS

/-! Forms of several unknowns: the law's forms, their parts. -/
namespace HS
open PySem L2
/-- a term as it is drawn -/
structure DrT (m : Nat) (t : Tm) : Prop where
  len : t.1.length = m
  pos : ∀ k ∈ t.1, 0 ≤ k
  sum : t.1.sum ≤ 4
  sz : Sz 3 t.2
theorem sum_set : ∀ (ks : List Int) (v : Nat) (c : Int), v < ks.length → (ks.set v (ks.getD v 0 + c)).sum = ks.sum + c
  | [], _, _, h => by simp at h
  | k :: ks, 0, c, h => by
    have e : (k :: ks).getD 0 0 = k := rfl
    rw [e, List.set_cons_zero, List.sum_cons, List.sum_cons]; omega
  | k :: ks, v + 1, c, h => by
    have e : (k :: ks).getD (v + 1) 0 = ks.getD v 0 := by simp [List.getD]
    have := sum_set ks v c (by simpa using h)
    rw [e, List.set_cons_succ, List.sum_cons, List.sum_cons, this]; omega
theorem UpT.put2 {n T P : Nat} {xs : List D} {h h' : Hh} {c : C} (x : UpT n T xs h h') (hP : P ≠ n) (hT : P ≠ T) (new : h.length ≤ P) : UpT n T xs h (h'.set P c) := by
  obtain ⟨zs, e, u⟩ := x.up.at_
  refine ⟨⟨⟨zs, by rw [List.getElem?_set_ne hP]; exact e, u⟩, by rw [List.length_set]; exact x.up.len, fun k hk hl => ?_⟩, by rw [List.getElem?_set_ne hT]; exact x.at_, x.ne, x.new⟩
  rw [List.getElem?_set_ne (by omega)]
  exact x.up.oth k hk hl
theorem unit_sum (m a : Nat) (hm : m ≤ 3) : (unitP m a).sum ≤ 4 := by
  have h := unitP_01 m a
  have l := unitP_len m a
  generalize unitP m a = ks at h l
  match ks, l, h with
  | [], _, _ => simp
  | [x], _, h => have := h x (by simp); simp; omega
  | [x, y], _, h => have := h x (by simp); have := h y (by simp); simp; omega
  | [x, y, z], _, h => have := h x (by simp); have := h y (by simp); have := h z (by simp); simp; omega
  | _ :: _ :: _ :: _ :: _, l, _ => simp at l; omega
section
variable {Δ : Nat → Fn} {gl : Nat → D}
theorem tup_lc {elt : E} {it : It} {ρ : En} {n v : Nat} {g : Nat → D} {H : Hh} (ei : evi Δ gl it ρ H = .ok (upFrom 0 n, []) H) (hn : n ≤ 3)
    (he : ∀ u, u < n → ev Δ gl elt ((wipeD ρ [v]).set v (some (.int (u : Int)))) H = .ok (g u) H) :
    ev Δ gl (.blt .tuple (.cons (.lc elt (.nm v) it .no [v]) .nil)) ρ H = .ok (.tup ((List.range n).map g)) (H ++ [.lst ((List.range n).map g)]) := by
  have el : ev Δ gl (.lc elt (.nm v) it .no [v]) ρ H = alloc (.lst ((List.range n).map g)) H := by
    rw [ev_lc ei, up_map]
    refine (lc_fmE (gsOk_nil H) (fun i : Nat => D.int (i : Int)) (fun u => some (g u)) _ [] (fun u hu => ?_) ?_).trans ?_
    · have := he u (by simpa using hu)
      simp only [asn, R.bind_ok, evt, if_true, this, R.calm_ok]
    · have : (1000 : Nat) < sizeLine := by decide
      simp only [List.length_nil, List.length_range]
      omega
    · rw [List.nil_append]
      congr 2
      exact fm_some _ _
  rw [ev, evs, el, alloc, R.bind_ok, evs, R.bind_ok, R.bind_ok]
  have := tup_end H [] ((List.range n).map g)
  rw [List.append_nil] at this
  exact this
theorem unit_elt {ρ : En} {s a : Nat} {H : Hh} (h6 : ρ[6]? = some (some (.int (s : Int)))) (h4 : ρ[4]? = some (some (.int (a : Int)))) :
    ev Δ gl (.blt .int (.cons (.cmp .Eq (.var 6) (.var 4)) .nil)) ρ H = .ok (.int (if s = a then 1 else 0)) H := by
  have c : cmpD .Eq (.int (s : Int)) (.int (a : Int)) H = .ok (.bl (decide ((s : Int) = a))) H := rfl
  have b : bltD .int [.bl (decide ((s : Int) = a))] H = .ok (.int (if decide ((s : Int) = a) = true then 1 else 0)) H := rfl
  simp only [ev, evs, h6, h4, R.bind_ok, c, b]
  congr 2
  by_cases z : s = a
  · subst z; simp
  · have : ¬ ((s : Int) = a) := by omega
    simp [z, this]
theorem unit_ev {m a : Nat} {H : Hh} (v0 v2 v3 v5 v6 v7 v8 v9 : Option D) (hm : m ≤ 3) :
    ev Δ gl (.blt .tuple (.cons (.lc (.blt .int (.cons (.cmp .Eq (.var 6) (.var 4)) .nil)) (.nm 6) (.rng (.cons (.var 1) .nil)) .no [6]) .nil)) [v0, some (.int (m : Int)), v2, v3, some (.int (a : Int)), v5, v6, v7, v8, v9] H =
      .ok (.tup ((unitP m a).map .int)) (H ++ [.lst ((unitP m a).map .int)]) := by
  have e62 : small62 (m : Int) = true := small_le (by omega) (by omega)
  have e := tup_lc (Δ := Δ) (gl := gl) (elt := .blt .int (.cons (.cmp .Eq (.var 6) (.var 4)) .nil)) (v := 6) (it := .rng (.cons (.var 1) .nil)) (ρ := [v0, some (.int (m : Int)), v2, v3, some (.int (a : Int)), v5, v6, v7, v8, v9]) (n := m) (H := H)
    (g := fun s => .int (if s = a then 1 else 0)) (evi_rng1 (by simp only [evs, ev, List.getElem?_cons_zero, List.getElem?_cons_succ, R.bind_ok]) e62) hm (fun s hs => unit_elt rfl rfl)
  have q : (List.range m).map (fun s => D.int (if s = a then 1 else 0)) = (unitP m a).map .int := by
    unfold unitP
    rw [List.map_map]
    rfl
  rw [q] at e
  exact e
def E_num (p s f : Nat) : E := .ife (.or (.cmp .NotEq (.var 4) (.var 2)) (.cmp .Eq (.call p (.cons (.var 0) (.cons (.int 6) .nil))) (.int 0))) (.call s (.cons (.var 0) .nil)) (.call f (.cons (.bin .add (.int 2) (.call p (.cons (.var 0) (.cons (.int 4) .nil)))) (.cons (.bin .add (.int 1) (.call p (.cons (.var 0) (.cons (.int 2) .nil)))) .nil)))
theorem num_ev {p s f : Nat} (hp : S_pull (Δ p)) (hs : S_small (Δ s)) (hf : S_with (Δ f)) {ρ : En} {n : Nat} {a b : Int} {h : Hh} (h0 : ρ[0]? = some (some (.ref n))) (h2 : ρ[2]? = some (some (.int b))) (h4 : ρ[4]? = some (some (.int a))) (ua : UAt n N0 h) :
    ∃ q h', ev Δ gl (E_num p s f) ρ h = .ok (fr q) h' ∧ Sz 3 q ∧ Up n N0 h h' := by
  have c : ∃ t h1, ev Δ gl (.or (.cmp .NotEq (.var 4) (.var 2)) (.cmp .Eq (.call p (.cons (.var 0) (.cons (.int 6) .nil))) (.int 0))) ρ h = .ok (.bl t) h1 ∧ Up n N0 h h1 := by
    have q : cmpD .NotEq (.int a) (.int b) h = .ok (.bl (!decide (a = b))) h := rfl
    by_cases z : a = b
    · obtain ⟨v, h1, e, _, _, u⟩ := hp n 6 h ua (by decide) (by decide)
      have q2 : cmpD .Eq (.int v) (.int 0) h1 = .ok (.bl (decide (v = 0))) h1 := rfl
      rw [decide_eq_true z] at q
      exact ⟨decide (v = 0), h1, by simp only [ev, evs, h0, h2, h4, R.bind_ok, q, Bool.not_true, e, q2], u⟩
    · rw [decide_eq_false z] at q
      exact ⟨true, h, by simp only [ev, evs, h0, h2, h4, R.bind_ok, q, Bool.not_false], .refl ua⟩
  obtain ⟨t, h1, ec, u⟩ := c
  cases t with
  | true =>
    obtain ⟨q, h2, e, sq, u2⟩ := hs n h1 u.at_
    refine ⟨q, h2, ?_, sq, u.trans u2⟩
    unfold E_num
    rw [ev, ec, R.bind_ok]
    simp only [ev, evs, h0, R.bind_ok, e]
  | false =>
    obtain ⟨v, h3, e3, v0, v1, u3⟩ := hp n 4 h1 u.at_ (by decide) (by decide)
    obtain ⟨w, h4', e4, w0, w1, u4⟩ := hp n 2 h3 u3.at_ (by decide) (by decide)
    have q1 : bop .add (.int 2) (.int v) h3 = .ok (.int (2 + v)) h3 := rfl
    have q2 : bop .add (.int 1) (.int w) h4' = .ok (.int (1 + w)) h4' := rfl
    have e5 := hf (2 + v) (1 + w) 3 h4' (by omega) (by unfold Bt; omega) (by decide)
    refine ⟨Rat.divInt (2 + v) (1 + w), h4', ?_, sz_divInt (B := 3) (by omega) (by unfold Bt; omega) (by unfold Bt; omega), u.trans (u3.trans u4)⟩
    unfold E_num
    rw [ev, ec, R.bind_ok]
    simp only [ev, evs, h0, R.bind_ok, e3, q1, e4, q2, e5]
theorem app_ev {a : E} {ρ : En} {n T : Nat} {xs : List D} {d : D} {h H H' : Hh} (x : UpT n T xs h H) (hv : ρ[3]? = some (some (.ref T))) (e : ev Δ gl a ρ H = .ok d H') (x' : UpT n T xs h H') (hl : xs.length < 1000) :
    ev Δ gl (.app (.var 3) a) ρ H = .ok .non (H'.set T (.lst (xs ++ [d]))) := by
  have lo : lstOk (.ref T) H = .ok (.ref T) H := by simp only [lstOk, x.at_]
  have sl : xs.length < sizeLine := Nat.lt_of_lt_of_le hl (by decide)
  have ap : app (.ref T) d H' = .ok .non (H'.set T (.lst (xs ++ [d]))) := by simp only [app, x'.at_, if_pos sl]
  rw [ev, ev, hv]
  simp only [R.bind_ok, lo, e, ap]
end
end HS

/-! Forms of several unknowns: the law's forms, their turns. -/
namespace HS
open PySem L2
section
variable {Δ : Nat → Fn} {gl : Nat → D}
theorem two_ok (a b : D) : lineOk ([a, b] : List D).length = true := by show lineOk 2 = true; decide
theorem one_ok (a : D) : lineOk ([a] : List D).length = true := by show lineOk 1 = true; decide
theorem form_turn0 {p s f : Nat} (hp : S_pull (Δ p)) (hs : S_small (Δ s)) (hf : S_with (Δ f)) {n m i T : Nat} {a : Int} {ts : List Tm} {h H : Hh} (v5 v6 v7 v8 v9 : Option D) (hm : m ≤ 3) (hl : ts.length < 1000) (x : UpT n T (ts.map ftm) h H) :
    ∃ t H' w5, exs Δ gl (L_law_drawn_form_0 p s f) [some (.ref n), some (.int (m : Int)), some (.int a), some (.ref T), some (.int (i : Int)), v5, v6, v7, v8, v9] H = .ok (.nx [some (.ref n), some (.int (m : Int)), some (.int a), some (.ref T), some (.int (i : Int)), w5, v6, v7, v8, v9]) H' ∧
      DrT m t ∧ UpT n T ((ts ++ [t]).map ftm) h H' := by
  obtain ⟨q, H1, e1, sq, u⟩ := num_ev (Δ := Δ) (gl := gl) hp hs hf (ρ := [some (.ref n), some (.int (m : Int)), some (.int a), some (.ref T), some (.int (i : Int)), v5, v6, v7, v8, v9]) (a := (i : Int)) (b := a) rfl rfl rfl x.up.at_
  have x1 := x.draw u
  have e2 := unit_ev (Δ := Δ) (gl := gl) (m := m) (a := i) (H := H1) (some (.ref n)) (some (.int a)) (some (.ref T)) (some (fr q)) v6 v7 v8 v9 hm
  have x2 : UpT n T (ts.map ftm) h (H1 ++ [.lst ((unitP m i).map .int)]) := x1.app
  generalize H1 ++ [C.lst ((unitP m i).map .int)] = H2 at e2 x2
  have e3 : ev Δ gl (.tup (.cons (.blt .tuple (.cons (.lc (.blt .int (.cons (.cmp .Eq (.var 6) (.var 4)) .nil)) (.nm 6) (.rng (.cons (.var 1) .nil)) .no [6]) .nil)) (.cons (.var 5) .nil))) [some (.ref n), some (.int (m : Int)), some (.int a), some (.ref T), some (.int (i : Int)), some (fr q), v6, v7, v8, v9] H1 =
      .ok (ftm (unitP m i, q)) H2 := by
    rw [ev, evs, e2, R.bind_ok, evs, ev]
    simp only [List.getElem?_cons_zero, List.getElem?_cons_succ, evs, R.bind_ok, two_ok, if_true]
    rfl
  have e4 := app_ev x1 rfl e3 x2 (by rw [List.length_map]; exact hl)
  refine ⟨(unitP m i, q), H2.set T (.lst (ts.map ftm ++ [ftm (unitP m i, q)])), some (fr q), ?_, ⟨unitP_len m i, fun k hk => (unitP_01 m i k hk).1, unit_sum m i hm, sq⟩, ?_⟩
  rotate_left
  · rw [List.map_append]
    exact x2.put
  · unfold L_law_drawn_form_0
    have e5 := ex_asg (i := 5) e1
    simp only [List.set] at e5
    refine (exs_nx e5).trans ?_
    exact (exs_nx (ex_exp e4)).trans (exs_nil _ _)
theorem aug_at {P v : Nat} {ks : List Int} {H : Hh} (e : H[P]? = some (.lst (ks.map .int))) (hv : v < ks.length) (h6 : v < 1000000) : augD (.ref P) (.int (v : Int)) 1 H = .ok () (H.set P (.lst ((ks.set v (ks.getD v 0 + 1)).map .int))) := by
  have g : (ks.map D.int)[v]? = some (.int (ks.getD v 0)) := by
    rw [List.getElem?_map, List.getElem?_eq_getElem hv]
    simp [List.getD, hv]
  have c : (0 : Int) ≤ (v : Int) ∧ (v : Int) < 1000000 := by omega
  simp only [augD, e, c, and_self, if_true, Int.toNat_natCast, g]
  rw [List.map_set]
theorem form_turn1 {p : Nat} (hp : S_pull (Δ p)) {n m T P : Nat} {xs : List D} {ks : List Int} {ρ : En} {h H : Hh} (m1 : 1 ≤ m) (hm : m ≤ 3) (h0 : ρ[0]? = some (some (.ref n))) (h1 : ρ[1]? = some (some (.int (m : Int)))) (h8 : ρ[8]? = some (some (.ref P)))
    (Pn : P ≠ n) (PT : P ≠ T) (Ph : h.length ≤ P) (x : UpT n T xs h H) (e : H[P]? = some (.lst (ks.map .int))) (hk : ks.length = m) (k0 : ∀ k ∈ ks, 0 ≤ k) :
    ∃ (v : Nat) (H' : Hh), exs Δ gl (L_law_drawn_form_1 p) ρ H = .ok (.nx ρ) H' ∧ v < m ∧ UpT n T xs h H' ∧ H'[P]? = some (.lst ((ks.set v (ks.getD v 0 + 1)).map .int)) := by
  obtain ⟨v, H1, e1, v0, v1, u⟩ := hp n (m : Int) H x.up.at_ (by omega) (by omega)
  obtain ⟨v, rfl⟩ := Int.eq_ofNat_of_zero_le v0
  have lt : P < H.length := (List.getElem?_eq_some_iff.mp e).1
  have e2 : H1[P]? = some (.lst (ks.map .int)) := by rw [u.oth P Pn lt]; exact e
  have e3 := aug_at (v := v) e2 (by omega) (by omega)
  refine ⟨v, _, ?_, by omega, (x.draw u).put2 Pn PT Ph, List.getElem?_set_self (Nat.lt_of_lt_of_le lt u.len)⟩
  unfold L_law_drawn_form_1
  simp only [exs, ex, ev, evs, h0, h1, h8, R.bind_ok, R.toF_ok, e1, e3, R.calm_ok]
theorem form_loop1 {p : Nat} (hp : S_pull (Δ p)) {n m T P k : Nat} {xs : List D} {h H : Hh} (v2 v4 v5 v6 v7 v9 : Option D) (m1 : 1 ≤ m) (hm : m ≤ 3)
    (Pn : P ≠ n) (PT : P ≠ T) (Ph : h.length ≤ P) (x : UpT n T xs h H) (e : H[P]? = some (.lst ((List.replicate m (0 : Int)).map .int))) :
    ∃ (ks : List Int) (w9 : Option D) (H' : Hh), forL [] (fun d ρ h => asn Δ gl (.nm 9) d ρ h) (fun ρ h => exs Δ gl (L_law_drawn_form_1 p) ρ h) (upFrom 0 k) [some (.ref n), some (.int (m : Int)), v2, some (.ref T), v4, v5, v6, v7, some (.ref P), v9] H =
      .ok (.nx [some (.ref n), some (.int (m : Int)), v2, some (.ref T), v4, v5, v6, v7, some (.ref P), w9]) H' ∧ UpT n T xs h H' ∧ H'[P]? = some (.lst (ks.map .int)) ∧ ks.length = m ∧ (∀ k ∈ ks, 0 ≤ k) ∧ ks.sum = k := by
  rw [up_map]
  obtain ⟨ρ', H', e1, i2⟩ := for_inv (gs := []) (tg := fun d ρ h => asn Δ gl (.nm 9) d ρ h) (bd := fun ρ h => exs Δ gl (L_law_drawn_form_1 p) ρ h) (fun i : Nat => D.int (i : Int)) (fun (b : Unit) (_ : Nat) => b)
    (fun i b ρ H' => ∃ (ks : List Int) (w9 : Option D), ρ = [some (.ref n), some (.int (m : Int)), v2, some (.ref T), v4, v5, v6, v7, some (.ref P), w9] ∧ UpT n T xs h H' ∧ H'[P]? = some (.lst (ks.map .int)) ∧ ks.length = m ∧ (∀ k ∈ ks, 0 ≤ k) ∧ ks.sum = i) (fun _ _ _ _ _ => gsOk_nil _) (List.range k) 0 ()
    [some (.ref n), some (.int (m : Int)), v2, some (.ref T), v4, v5, v6, v7, some (.ref P), v9] H
    (fun i a b ρ H1 ea ⟨ks, w9, er, x1, g, lk, k0, sm⟩ => by
      subst er
      obtain ⟨v, H2, e2, hv, x2, g2⟩ := form_turn1 (Δ := Δ) (gl := gl) hp (ρ := [some (.ref n), some (.int (m : Int)), v2, some (.ref T), v4, v5, v6, v7, some (.ref P), some (.int (a : Int))]) m1 hm rfl rfl rfl Pn PT Ph x1 g lk k0
      refine ⟨_, H1, _, H2, by simp only [asn, List.set], e2, ks.set v (ks.getD v 0 + 1), _, rfl, x2, g2, by rw [List.length_set]; exact lk, fun y hy => ?_, ?_⟩
      · rcases List.mem_or_eq_of_mem_set hy with hy | rfl
        · exact k0 y hy
        · have := k0 _ (getD_mem (a := v) (by omega))
          omega
      · rw [sum_set ks v 1 (by omega), sm]
        omega) ⟨List.replicate m 0, v9, rfl, x, e, by simp, fun y hy => by rw [(List.mem_replicate.mp hy).2]; exact Int.le_refl 0, by
          have : ∀ m : Nat, (List.replicate m (0 : Int)).sum = 0 := fun m => by
            induction m with
            | zero => rfl
            | succ m ih => rw [List.replicate_succ, List.sum_cons, ih]; rfl
          rw [this]; rfl⟩
  obtain ⟨ks, w9, rfl, x', g, lk, k0, sm⟩ := i2
  exact ⟨ks, w9, H', e1, x', g, lk, k0, by rw [sm, List.length_range]; omega⟩
theorem zeros_ev {m : Nat} (hm : m ≤ 3) {ρ : En} {H : Hh} (h1 : ρ[1]? = some (some (.int (m : Int)))) :
    ev Δ gl (.bin .mul (.lst (.cons (.int 0) .nil)) (.var 1)) ρ H = .ok (.ref (H ++ [C.lst [.int 0]]).length) (H ++ [.lst [.int 0]] ++ [.lst ((List.replicate m (0 : Int)).map .int)]) := by
  have fl : (List.replicate m [D.int 0]).flatten = (List.replicate m (0 : Int)).map D.int := by
    rw [List.map_replicate]
    exact List.flatten_replicate_singleton
  have b : bop .mul (.ref H.length) (.int (m : Int)) (H ++ [.lst [.int 0]]) = alloc (.lst ((List.replicate m (0 : Int)).map .int)) (H ++ [.lst [.int 0]]) := by
    have lk : lineOk (([D.int 0] : List D).length * (m : Int).toNat) = true := by
      unfold lineOk
      refine decide_eq_true ?_
      have : (1000 : Nat) < sizeLine := by decide
      simp only [List.length_cons, List.length_nil, Int.toNat_natCast]
      omega
    have c : -(2 ^ 63) ≤ (m : Int) ∧ (m : Int) < 2 ^ 63 ∧ lineOk (([D.int 0] : List D).length * (m : Int).toNat) = true := ⟨by omega, by omega, lk⟩
    simp only [bop, get_end]
    rw [if_pos c, Int.toNat_natCast, fl]
  rw [ev, ev, evs, ev, R.bind_ok, evs, R.bind_ok, R.bind_ok, one_ok, if_pos rfl, alloc, R.bind_ok, ev, h1]
  exact b
theorem num2_ev {p f : Nat} (hp : S_pull (Δ p)) (hf : S_with (Δ f)) {ρ : En} {n : Nat} {h : Hh} (h0 : ρ[0]? = some (some (.ref n))) (ua : UAt n N0 h) :
    ∃ q h', ev Δ gl (.call f (.cons (.bin .sub (.call p (.cons (.var 0) (.cons (.int 9) .nil))) (.int 4)) (.cons (.bin .add (.int 1) (.call p (.cons (.var 0) (.cons (.int 6) .nil)))) .nil))) ρ h = .ok (fr q) h' ∧ Sz 3 q ∧ Up n N0 h h' := by
  obtain ⟨v, h3, e3, v0, v1, u3⟩ := hp n 9 h ua (by decide) (by decide)
  obtain ⟨w, h4', e4, w0, w1, u4⟩ := hp n 6 h3 u3.at_ (by decide) (by decide)
  have q1 : bop .sub (.int v) (.int 4) h3 = .ok (.int (v - 4)) h3 := rfl
  have q2 : bop .add (.int 1) (.int w) h4' = .ok (.int (1 + w)) h4' := rfl
  have e5 := hf (v - 4) (1 + w) 3 h4' (by omega) (by unfold Bt; omega) (by decide)
  refine ⟨Rat.divInt (v - 4) (1 + w), h4', ?_, sz_divInt (B := 3) (by omega) (by unfold Bt; omega) (by unfold Bt; omega), u3.trans u4⟩
  simp only [ev, evs, h0, R.bind_ok, e3, q1, e4, q2, e5]
theorem form_turn2 {p f : Nat} (hp : S_pull (Δ p)) (hf : S_with (Δ f)) {n m T : Nat} {ts : List Tm} {h H : Hh} (v2 v4 v5 v6 v7 v8 v9 : Option D) (m1 : 1 ≤ m) (hm : m ≤ 3) (hl : ts.length < 1000) (x : UpT n T (ts.map ftm) h H) :
    ∃ t H' w8 w9, exs Δ gl (L_law_drawn_form_2 p f) [some (.ref n), some (.int (m : Int)), v2, some (.ref T), v4, v5, v6, v7, v8, v9] H = .ok (.nx [some (.ref n), some (.int (m : Int)), v2, some (.ref T), v4, v5, v6, v7, w8, w9]) H' ∧
      DrT m t ∧ UpT n T ((ts ++ [t]).map ftm) h H' := by
  have e1 := zeros_ev (Δ := Δ) (gl := gl) (m := m) hm (ρ := [some (.ref n), some (.int (m : Int)), v2, some (.ref T), v4, v5, v6, v7, v8, v9]) (H := H) rfl
  have x1 : UpT n T (ts.map ftm) h (H ++ [.lst [.int 0]] ++ [.lst ((List.replicate m (0 : Int)).map .int)]) := x.app.app
  have g1 : (H ++ [C.lst [.int 0]] ++ [C.lst ((List.replicate m (0 : Int)).map .int)])[(H ++ [C.lst [.int 0]]).length]? = some (.lst ((List.replicate m (0 : Int)).map .int)) := get_end
  have Pn : (H ++ [C.lst [D.int 0]]).length ≠ n := by
    have := x.up.at_.lt
    rw [List.length_append]
    omega
  have PT : (H ++ [C.lst [D.int 0]]).length ≠ T := by
    have := (List.getElem?_eq_some_iff.mp x.at_).1
    rw [List.length_append]
    omega
  have Ph : h.length ≤ (H ++ [C.lst [D.int 0]]).length := by
    have := x.up.len
    rw [List.length_append]
    omega
  generalize (H ++ [C.lst [D.int 0]]).length = P at e1 g1 Pn PT Ph
  generalize H ++ [C.lst [D.int 0]] ++ [C.lst ((List.replicate m (0 : Int)).map .int)] = H1 at e1 x1 g1
  obtain ⟨v, H2, e2, v0, v1, u2⟩ := hp n 3 H1 x1.up.at_ (by decide) (by decide)
  obtain ⟨v, rfl⟩ := Int.eq_ofNat_of_zero_le v0
  have lt : P < H1.length := (List.getElem?_eq_some_iff.mp g1).1
  have g2 : H2[P]? = some (.lst ((List.replicate m (0 : Int)).map .int)) := by rw [u2.oth P Pn lt]; exact g1
  have e62 : small62 ((2 + v : Nat) : Int) = true := small_le (by omega) (by omega)
  have b2 : bop .add (.int 2) (.int (v : Int)) H2 = .ok (.int ((2 + v : Nat) : Int)) H2 := by
    have : ((2 + v : Nat) : Int) = 2 + (v : Int) := by omega
    rw [this]
    rfl
  obtain ⟨ks, w9, H3, e3, x3, g3, lk, k0, sm⟩ := form_loop1 (Δ := Δ) (gl := gl) hp (k := 2 + v) v2 v4 v5 v6 v7 v9 m1 hm Pn PT Ph (x1.draw u2) g2
  obtain ⟨q, H4, e4, sq, u4⟩ := num2_ev (Δ := Δ) (gl := gl) hp hf (ρ := [some (.ref n), some (.int (m : Int)), v2, some (.ref T), v4, v5, v6, v7, some (.ref P), w9]) rfl x3.up.at_
  have x4 := x3.draw u4
  have e5 : ev Δ gl (.tup (.cons (.blt .tuple (.cons (.var 8) .nil)) (.cons (.call f (.cons (.bin .sub (.call p (.cons (.var 0) (.cons (.int 9) .nil))) (.int 4)) (.cons (.bin .add (.int 1) (.call p (.cons (.var 0) (.cons (.int 6) .nil)))) .nil))) .nil))) [some (.ref n), some (.int (m : Int)), v2, some (.ref T), v4, v5, v6, v7, some (.ref P), w9] H3 =
      .ok (ftm (ks, q)) H4 := by
    have t : bltD .tuple [.ref P] H3 = .ok (.tup (ks.map .int)) H3 := by simp only [bltD, listAt, g3]
    have t1 : ev Δ gl (.blt .tuple (.cons (.var 8) .nil)) [some (.ref n), some (.int (m : Int)), v2, some (.ref T), v4, v5, v6, v7, some (.ref P), w9] H3 = .ok (.tup (ks.map .int)) H3 := by
      simp only [ev, evs, List.getElem?_cons_zero, List.getElem?_cons_succ, R.bind_ok, t]
    rw [ev, evs, t1, R.bind_ok, evs, e4, R.bind_ok, evs, R.bind_ok, R.bind_ok, R.bind_ok, two_ok, if_pos rfl]
    rfl
  have e6 := app_ev x3 rfl e5 x4 (by rw [List.length_map]; exact hl)
  refine ⟨(ks, q), H4.set T (.lst (ts.map ftm ++ [ftm (ks, q)])), some (.ref P), w9, ?_, ⟨lk, k0, by rw [show (ks, q).1 = ks from rfl, sm]; omega, sq⟩, ?_⟩
  rotate_left
  · rw [List.map_append]
    exact x4.put
  · unfold L_law_drawn_form_2
    have s1 := ex_asg (i := 8) e1
    simp only [List.set] at s1
    refine (exs_nx s1).trans ?_
    refine (exs_nx (ex_for (p := upFrom 0 (2 + v)) (gs := []) (h1 := H2) (evi_rng1 (k := 2 + v) ?_ e62) e3)).trans ?_
    · simp only [evs, ev, List.getElem?_cons_zero, List.getElem?_cons_succ, R.bind_ok, e2, b2]
    · exact (exs_nx (ex_exp e6)).trans (exs_nil _ _)
end
end HS

/-! Forms of several unknowns: the law's forms, systems. -/
namespace HS
open PySem L2
theorem sum_nn : ∀ {ks : List Int}, (∀ k ∈ ks, 0 ≤ k) → 0 ≤ ks.sum
  | [], _ => Int.le_refl 0
  | x :: ks, h => by
    have := sum_nn (fun y hy => h y (List.mem_cons_of_mem _ hy))
    have := h x List.mem_cons_self
    rw [List.sum_cons]; omega
theorem le_sum : ∀ {ks : List Int}, (∀ k ∈ ks, 0 ≤ k) → ∀ k ∈ ks, k ≤ ks.sum
  | [], _, k, m => nomatch m
  | x :: ks, h, k, m => by
    have hs := sum_nn (fun y hy => h y (List.mem_cons_of_mem _ hy))
    rw [List.sum_cons]
    rcases List.mem_cons.mp m with rfl | m
    · omega
    · have := le_sum (fun y hy => h y (List.mem_cons_of_mem _ hy)) k m
      have := h x List.mem_cons_self
      omega
theorem DrT.ok {m : Nat} {t : Tm} (h : DrT m t) : OkT m 3 t := ⟨h.len, fun k hk => ⟨h.pos k hk, by have := le_sum h.pos k hk; have := h.sum; omega⟩, h.sz⟩
theorem fold_keys : ∀ (ts rs : List Tm) (k : List Int), k ∈ (ts.foldl accR rs).map (·.1) → k ∈ rs.map (·.1) ∨ k ∈ ts.map (·.1)
  | [], rs, k, m => .inl m
  | t :: ts, rs, k, m => by
    rw [List.foldl_cons] at m
    rcases fold_keys ts _ k m with m | m
    · rw [acc_keys] at m
      split at m
      · exact .inl m
      · rcases List.mem_append.mp m with m | m
        · exact .inl m
        · exact .inr (by rw [List.map_cons, List.mem_singleton.mp m]; exact List.mem_cons_self)
    · exact .inr (by rw [List.map_cons]; exact List.mem_cons_of_mem _ m)
theorem fw_keys {ts : List Tm} {r : Tm} (m : r ∈ fw ts) : ∃ t ∈ ts, t.1 = r.1 := by
  have a := (List.mem_filter.mp ((fw_perm ts).mem_iff.mp m)).1
  have b : r.1 ∈ (gat ts).map (·.1) := List.mem_map.mpr ⟨r, a, rfl⟩
  rcases fold_keys ts [] _ b with c | c
  · simp at c
  · exact List.mem_map.mp c
/-- a form as it is drawn -/
structure DrF (m : Nat) (F : List Tm) : Prop where
  ok : ∀ t ∈ F, OkT m 29 t
  sum : ∀ t ∈ F, t.1.sum ≤ 4
  nz : ∀ t ∈ F, t.2 ≠ 0
  s : F.Pairwise fun a b => a.1 < b.1
  l : F.length ≤ 7
theorem fw_dr {m : Nat} {ts : List Tm} (h : ∀ t ∈ ts, DrT m t) (l : ts.length ≤ 7) : DrF m (fw ts) := by
  refine ⟨fun r hr => ?_, fun r hr => ?_, fw_nz ts, fw_strict ts, Nat.le_trans (fw_len ts) l⟩
  · have q := fw_ok (fun t ht => (h t ht).ok) r hr
    exact ⟨q.len, q.pos, q.sz.mono (by omega)⟩
  · obtain ⟨t, ht, e⟩ := fw_keys hr
    rw [← e]
    exact (h t ht).sum
def S_form7 (f : Fn) : Prop := ∀ (n m : Nat) (a : Int) h, UAt n N0 h → 1 ≤ m → m ≤ 3 → ∃ F h', f [.ref n, .int (m : Int), .int a] h = .ok (ffm F) h' ∧ DrF m F ∧ Up n N0 h h'
structure DrS (m : Nat) (S : List (List Tm)) : Prop where
  len : S.length = m
  n1 : 1 ≤ m
  n3 : m ≤ 3
  f : ∀ F ∈ S, DrF m F
def S_sys7 (f : Fn) : Prop := ∀ (n : Nat) h, UAt n N0 h → ∃ m S h', f [.ref n, .int 3] h = .ok (sysD S) h' ∧ DrS m S ∧ Up n N0 h h'
section
variable {Δ : Nat → Fn} {gl : Nat → D}
theorem form_loop0 {p s f : Nat} (hp : S_pull (Δ p)) (hs : S_small (Δ s)) (hf : S_with (Δ f)) {n m T : Nat} {a : Int} {h H : Hh} {ts : List Tm} (v4 v5 v6 v7 v8 v9 : Option D) (hm : m ≤ 3) (hl : ts.length ≤ 7) (o : ∀ t ∈ ts, DrT m t) (x : UpT n T (ts.map ftm) h H) :
    ∃ (us : List Tm) (w4 w5 : Option D) (H' : Hh), forL [] (fun d ρ h => asn Δ gl (.nm 4) d ρ h) (fun ρ h => exs Δ gl (L_law_drawn_form_0 p s f) ρ h) (upFrom 0 m) [some (.ref n), some (.int (m : Int)), some (.int a), some (.ref T), v4, v5, v6, v7, v8, v9] H =
      .ok (.nx [some (.ref n), some (.int (m : Int)), some (.int a), some (.ref T), w4, w5, v6, v7, v8, v9]) H' ∧ UpT n T (us.map ftm) h H' ∧ (∀ t ∈ us, DrT m t) ∧ us.length = ts.length + m := by
  rw [up_map]
  obtain ⟨ρ', H', e1, i2⟩ := for_inv (gs := []) (tg := fun d ρ h => asn Δ gl (.nm 4) d ρ h) (bd := fun ρ h => exs Δ gl (L_law_drawn_form_0 p s f) ρ h) (fun i : Nat => D.int (i : Int)) (fun (b : Unit) (_ : Nat) => b)
    (fun i b ρ H' => ∃ (us : List Tm) (w4 w5 : Option D), ρ = [some (.ref n), some (.int (m : Int)), some (.int a), some (.ref T), w4, w5, v6, v7, v8, v9] ∧ UpT n T (us.map ftm) h H' ∧ (∀ t ∈ us, DrT m t) ∧ us.length = ts.length + i) (fun _ _ _ _ _ => gsOk_nil _) (List.range m) 0 ()
    [some (.ref n), some (.int (m : Int)), some (.int a), some (.ref T), v4, v5, v6, v7, v8, v9] H
    (fun i c b ρ H1 ea ⟨us, w4, w5, er, x1, o1, l1⟩ => by
      subst er
      have hi : i < m := by
        have := (List.getElem?_eq_some_iff.mp ea).1
        simpa using this
      obtain ⟨t, H2, z5, e2, dt, x2⟩ := form_turn0 (Δ := Δ) (gl := gl) hp hs hf (i := c) (a := a) w5 v6 v7 v8 v9 hm (by omega) x1
      refine ⟨_, H1, _, H2, by simp only [asn, List.set], e2, us ++ [t], _, _, rfl, x2, fun y hy => ?_, by rw [List.length_append, l1]; simp; omega⟩
      rcases List.mem_append.mp hy with hy | hy
      · exact o1 y hy
      · rw [List.mem_singleton.mp hy]; exact dt) ⟨ts, v4, v5, rfl, x, o, rfl⟩
  obtain ⟨us, w4, w5, rfl, x', o', l'⟩ := i2
  exact ⟨us, w4, w5, H', e1, x', o', by rw [l', List.length_range]; omega⟩
theorem form_loop2 {p f : Nat} (hp : S_pull (Δ p)) (hf : S_with (Δ f)) {n m T k : Nat} {h H : Hh} {ts : List Tm} (v2 v4 v5 v6 v7 v8 v9 : Option D) (m1 : 1 ≤ m) (hm : m ≤ 3) (hk : k ≤ 10) (hl : ts.length ≤ 7) (o : ∀ t ∈ ts, DrT m t) (x : UpT n T (ts.map ftm) h H) :
    ∃ (us : List Tm) (w7 w8 w9 : Option D) (H' : Hh), forL [] (fun d ρ h => asn Δ gl (.nm 7) d ρ h) (fun ρ h => exs Δ gl (L_law_drawn_form_2 p f) ρ h) (upFrom 0 k) [some (.ref n), some (.int (m : Int)), v2, some (.ref T), v4, v5, v6, v7, v8, v9] H =
      .ok (.nx [some (.ref n), some (.int (m : Int)), v2, some (.ref T), v4, v5, v6, w7, w8, w9]) H' ∧ UpT n T (us.map ftm) h H' ∧ (∀ t ∈ us, DrT m t) ∧ us.length = ts.length + k := by
  rw [up_map]
  obtain ⟨ρ', H', e1, i2⟩ := for_inv (gs := []) (tg := fun d ρ h => asn Δ gl (.nm 7) d ρ h) (bd := fun ρ h => exs Δ gl (L_law_drawn_form_2 p f) ρ h) (fun i : Nat => D.int (i : Int)) (fun (b : Unit) (_ : Nat) => b)
    (fun i b ρ H' => ∃ (us : List Tm) (w7 w8 w9 : Option D), ρ = [some (.ref n), some (.int (m : Int)), v2, some (.ref T), v4, v5, v6, w7, w8, w9] ∧ UpT n T (us.map ftm) h H' ∧ (∀ t ∈ us, DrT m t) ∧ us.length = ts.length + i) (fun _ _ _ _ _ => gsOk_nil _) (List.range k) 0 ()
    [some (.ref n), some (.int (m : Int)), v2, some (.ref T), v4, v5, v6, v7, v8, v9] H
    (fun i c b ρ H1 ea ⟨us, w7, w8, w9, er, x1, o1, l1⟩ => by
      subst er
      have hi : i < k := by
        have := (List.getElem?_eq_some_iff.mp ea).1
        simpa using this
      obtain ⟨t, H2, z8, z9, e2, dt, x2⟩ := form_turn2 (Δ := Δ) (gl := gl) hp hf v2 v4 v5 v6 (some (.int (c : Int))) w8 w9 m1 hm (by omega) x1
      refine ⟨_, H1, _, H2, by simp only [asn, List.set], e2, us ++ [t], _, _, _, rfl, x2, fun y hy => ?_, by rw [List.length_append, l1]; simp; omega⟩
      rcases List.mem_append.mp hy with hy | hy
      · exact o1 y hy
      · rw [List.mem_singleton.mp hy]; exact dt) ⟨ts, v7, v8, v9, rfl, x, o, rfl⟩
  obtain ⟨us, w7, w8, w9, rfl, x', o', l'⟩ := i2
  exact ⟨us, w7, w8, w9, H', e1, x', o', by rw [l', List.length_range]; omega⟩
theorem first_ev {s : Nat} (hs : S_small (Δ s)) {n m : Nat} {ρ : En} {h : Hh} (hm : m ≤ 3) (h0 : ρ[0]? = some (some (.ref n))) (h1 : ρ[1]? = some (some (.int (m : Int)))) (ua : UAt n N0 h) :
    ∃ (t : Tm) (H' : Hh), ev Δ gl (.lst (.cons (.tup (.cons (.bin .mul (.tup (.cons (.int 0) .nil)) (.var 1)) (.cons (.call s (.cons (.var 0) .nil)) .nil))) .nil)) ρ h = .ok (.ref H'.length) (H' ++ [.lst ([t].map ftm)]) ∧ DrT m t ∧ Up n N0 h H' := by
  obtain ⟨q, H1, e1, sq, u⟩ := hs n h ua
  have fl : (List.replicate m [D.int 0]).flatten = (List.replicate m (0 : Int)).map D.int := by
    rw [List.map_replicate]
    exact List.flatten_replicate_singleton
  have b : bop .mul (.tup [.int 0]) (.int (m : Int)) h = .ok (.tup ((List.replicate m (0 : Int)).map .int)) h := by
    have c : ([D.int 0] : List D) ≠ [] ∧ (0 : Int) ≤ (m : Int) ∧ (m : Int) ≤ 1000 ∧ ([D.int 0] : List D).length ≤ 1000 := ⟨by simp, by omega, by omega, by simp⟩
    simp only [bop]
    rw [if_pos c, Int.toNat_natCast, fl]
  have e2 : ev Δ gl (.bin .mul (.tup (.cons (.int 0) .nil)) (.var 1)) ρ h = .ok (.tup ((List.replicate m (0 : Int)).map .int)) h := by
    rw [ev, ev, evs, ev, R.bind_ok, evs, R.bind_ok, R.bind_ok, one_ok, if_pos rfl, R.bind_ok, ev, h1]
    exact b
  refine ⟨(List.replicate m 0, q), H1, ?_, ⟨by simp, fun k hk => by rw [(List.mem_replicate.mp hk).2]; exact Int.le_refl 0, ?_, sq⟩, u⟩
  · rw [ev, evs, ev, evs, e2, R.bind_ok, evs]
    simp only [ev, evs, h0, R.bind_ok, e1, two_ok, one_ok, if_true]
    rfl
  · have : ∀ m : Nat, (List.replicate m (0 : Int)).sum = 0 := fun m => by
      induction m with
      | zero => rfl
      | succ m ih => rw [List.replicate_succ, List.sum_cons, ih]; rfl
    show (List.replicate m (0 : Int)).sum ≤ 4
    rw [this]
    decide
set_option maxHeartbeats 1000000 in
theorem s_law_drawn_form {s p f g : Nat} (hs : S_small (Δ s)) (hp : S_pull (Δ p)) (hf : S_with (Δ f)) (hg : S_formW (Δ g)) : S_form7 (run Δ gl (F_law_drawn_form s p f g)) := by
  intro n m a h ua m1 m3
  have e62 : small62 (m : Int) = true := small_le (by omega) (by omega)
  obtain ⟨t, H1, e1, dt, u1⟩ := first_ev (Δ := Δ) (gl := gl) hs (ρ := [some (.ref n), some (.int (m : Int)), some (.int a), none, none, none, none, none, none, none]) m3 rfl rfl ua
  have x1 : UpT n H1.length ([t].map ftm) h (H1 ++ [.lst ([t].map ftm)]) := ⟨u1.push7, get_end, by have := u1.at_.lt; omega, u1.len⟩
  generalize H1.length = T at e1 x1
  generalize H1 ++ [C.lst ([t].map ftm)] = H2 at e1 x1
  obtain ⟨us, w4, w5, H3, e3, x3, o3, l3⟩ := form_loop0 (Δ := Δ) (gl := gl) hp hs hf (a := a) none none none none none none m3 (by simp) (fun y hy => by rw [List.mem_singleton.mp hy]; exact dt) x1
  obtain ⟨v, H4, e4, v0, v1, u4⟩ := hp n 4 H3 x3.up.at_ (by decide) (by decide)
  obtain ⟨v, rfl⟩ := Int.eq_ofNat_of_zero_le v0
  have v62 : small62 (v : Int) = true := small_le (by omega) (by omega)
  have l3' : us.length = 1 + m := by rw [l3]; rfl
  obtain ⟨ws, w7, w8, w9, H5, e5, x5, o5, l5⟩ := form_loop2 (Δ := Δ) (gl := gl) hp hf (k := v) (some (.int a)) w4 w5 none none none none m1 m3 (by omega) (by omega) o3 (x3.draw u4)
  have dr := fw_dr o5 (by omega)
  have e6 := hg m 3 ws T H5 x5.at_ (fun t ht => (o5 t ht).ok) m1 (by omega) (by omega)
  have key : exs Δ gl (B_law_drawn_form s p f g) [some (.ref n), some (.int (m : Int)), some (.int a), none, none, none, none, none, none, none] h = .ok (.rt (ffm (fw ws))) H5 := by
    unfold B_law_drawn_form
    have s1 := ex_asg (i := 3) e1
    simp only [List.set] at s1
    refine (exs_nx s1).trans ?_
    refine (exs_nx (ex_for (p := upFrom 0 m) (gs := []) (h1 := H2) (evi_rng1 (k := m) ?_ e62) e3)).trans ?_
    · simp only [evs, ev, List.getElem?_cons_zero, List.getElem?_cons_succ, R.bind_ok]
    refine (exs_nx (ex_for (p := upFrom 0 v) (gs := []) (h1 := H4) (evi_rng1 (k := v) ?_ v62) e5)).trans ?_
    · simp only [evs, ev, List.getElem?_cons_zero, List.getElem?_cons_succ, R.bind_ok, e4]
    exact exs_rt (by simp only [evs, ev, List.getElem?_cons_zero, List.getElem?_cons_succ, R.bind_ok, e6])
  obtain ⟨h9, t1, t2⟩ := tidy_up (d := ffm (fw ws)) (ffm_flat _) ua (Nat.le_refl N0) x5.up
  refine ⟨fw ws, h9, ?_, dr, t2⟩
  rw [run_rt (f := F_law_drawn_form s p f g) (xs := [.ref n, .int (m : Int), .int a]) rfl key]
  exact t1
theorem sysD_flat (S : List (List Tm)) : (sysD S).flat = true := by
  unfold sysD
  simp only [D.flat]
  rw [D.flats_iff]
  intro d m
  obtain ⟨t, _, rfl⟩ := List.mem_map.mp m
  exact ffm_flat _
theorem s_law_drawn_system {p f : Nat} (hp : S_pull (Δ p)) (hf : S_form7 (Δ f)) : S_sys7 (run Δ gl (F_law_drawn_system p f)) := by
  intro n h ua
  obtain ⟨v, H1, e1, v0, v1, u1⟩ := hp n 3 h ua (by decide) (by decide)
  obtain ⟨v, rfl⟩ := Int.eq_ofNat_of_zero_le v0
  have b1 : bop .add (.int 1) (.int (v : Int)) H1 = .ok (.int ((1 + v : Nat) : Int)) H1 := by
    have : ((1 + v : Nat) : Int) = 1 + (v : Int) := by omega
    rw [this]
    rfl
  have hv : v ≤ 2 := by omega
  generalize hm : 1 + v = m at b1
  have m1 : 1 ≤ m := by omega
  have m3 : m ≤ 3 := by omega
  have e62 : small62 (m : Int) = true := small_le (by omega) (by omega)
  obtain ⟨S, H2, e2, lS, oS, u2⟩ := lc_drawG (n := n) (el := fun d h => ((asn Δ gl (.nm 3) d (wipeD [some (.ref n), some (.int 3), some (.int (m : Int)), none] [3]) h).bind fun ρ1 h => (evt Δ gl .no ρ1 h).bind fun b h => if b = true then (ev Δ gl (.call f (.cons (.var 0) (.cons (.var 2) (.cons (.var 3) .nil)))) ρ1 h).bind fun y h => .ok (some y) h else .ok none h).calm)
    ffm (DrF m) (upFrom 0 m) [] H1 (fun d hd h ua => by
      rw [up_map] at hd
      obtain ⟨i, _, rfl⟩ := List.mem_map.mp hd
      obtain ⟨F, h', e, dr, u⟩ := hf n m (i : Int) h ua m1 m3
      exact ⟨F, h', lc_el (by simp only [wipeD, List.set, ev, evs, List.getElem?_cons_zero, List.getElem?_cons_succ, R.bind_ok, e]), dr, u⟩) u1.at_ (by simp [upFrom]; omega)
  have key : exs Δ gl (B_law_drawn_system p f) [some (.ref n), some (.int 3), none, none] h = .ok (.rt (sysD S)) (H2 ++ [.lst (S.map ffm)]) := by
    unfold B_law_drawn_system
    have s1 := ex_asg (Δ := Δ) (gl := gl) (i := 2) (e := .bin .add (.int 1) (.call p (.cons (.var 0) (.cons (.var 1) .nil)))) (ρ := [some (.ref n), some (.int 3), none, none]) (h := h) (h1 := H1) (d := .int (m : Int)) (by
      simp only [ev, evs, List.getElem?_cons_zero, List.getElem?_cons_succ, R.bind_ok, e1, b1])
    simp only [List.set] at s1
    refine (exs_nx s1).trans ?_
    refine exs_rt ?_
    rw [ev, evs, ev_lc (evi_rng1 (h1 := H1) (k := m) (by simp only [evs, ev, List.getElem?_cons_zero, List.getElem?_cons_succ, R.bind_ok]) e62), e2, R.bind_ok, evs, R.bind_ok, R.bind_ok, List.nil_append]
    simp only [bltD, listAt, get_end]
    rfl
  obtain ⟨h9, t1, t2⟩ := tidy_up (d := sysD S) (sysD_flat _) ua (Nat.le_refl N0) (u1.trans u2.push7)
  refine ⟨m, S, h9, ?_, ⟨by rw [lS]; simp [upFrom], m1, m3, oS⟩, t2⟩
  rw [run_rt (f := F_law_drawn_system p f) (xs := [.ref n, .int 3]) rfl key]
  exact t1
end
end HS

/-! Forms of several unknowns: the law's systems, and these times a power of one unknown. -/
namespace HS
open PySem L2
theorem sh_lt : ∀ (ks ls : List Int) (a : Nat) (k : Int), ks < ls → a < ks.length → a < ls.length → ks.set a (ks.getD a 0 + k) < ls.set a (ls.getD a 0 + k)
  | [], _, _, _, _, h, _ => by simp at h
  | _ :: _, [], _, _, _, _, h => by simp at h
  | x :: ks, y :: ls, 0, k, l, _, _ => by
    have e1 : (x :: ks).getD 0 0 = x := rfl
    have e2 : (y :: ls).getD 0 0 = y := rfl
    rw [e1, e2, List.set_cons_zero, List.set_cons_zero, List.cons_lt_cons_iff]
    rw [List.cons_lt_cons_iff] at l
    rcases l with l | ⟨l1, l2⟩
    · exact .inl (by omega)
    · exact .inr ⟨by omega, l2⟩
  | x :: ks, y :: ls, a + 1, k, l, h1, h2 => by
    have e1 : (x :: ks).getD (a + 1) 0 = ks.getD a 0 := by simp [List.getD]
    have e2 : (y :: ls).getD (a + 1) 0 = ls.getD a 0 := by simp [List.getD]
    rw [e1, e2, List.set_cons_succ, List.set_cons_succ, List.cons_lt_cons_iff]
    rw [List.cons_lt_cons_iff] at l
    rcases l with l | ⟨l1, l2⟩
    · exact .inl l
    · exact .inr ⟨l1, sh_lt ks ls a k l2 (by simpa using h1) (by simpa using h2)⟩
theorem fs_sz {n B X : Nat} {p : List Rat} (op : OkPl n X p) (hn : n ≤ 3) : ∀ F : List Tm, (∀ t ∈ F, OkT n B t) → Sz (F.length * (TB B X + 1) + 1) (fs p F)
  | [], _ => by
    rw [fs]
    exact (show Sz 1 0 from ⟨bts (by decide), bts (by decide)⟩).mono (by omega)
  | t :: F, h => by
    have hT : TB B X = B + 3 * (16 * X + 1) + 1 := rfl
    rw [fs]
    refine ((tv_sz (h t List.mem_cons_self) op hn).add (fs_sz op hn F fun x m => h x (List.mem_cons_of_mem _ m))).mono ?_
    rw [List.length_cons, Nat.add_mul]
    omega
theorem sl_sz {n B X u : Nat} {p : List Rat} (op : OkPl n X p) (hn : n ≤ 3) {F : List Tm} (h : ∀ t ∈ F, OkT n B t) : Sz (F.length * (TB (B + 5) X + 1) + 1) (slF p F u) := by
  refine (fs_sz op hn (grn u F) (grn_ok (u := u) h)).mono ?_
  have := Nat.mul_le_mul_right (TB (B + 5) X + 1) (grn_len u F)
  omega
theorem DrS.oks {m : Nat} {S : List (List Tm)} (h : DrS m S) : OkS m 29 7 S := ⟨h.len, h.n1, h.n3, fun F hF => (h.f F hF).ok, fun F hF => (h.f F hF).l⟩
theorem DrS.sys {m : Nat} {S : List (List Tm)} (h : DrS m S) : OkSys m S :=
  ⟨h.len, h.n1, h.n3, fun F hF => ⟨fun t ht => ⟨((h.f F hF).ok t ht).len, fun k hk => (((h.f F hF).ok t ht).pos k hk).1, by have := (h.f F hF).sum t ht; omega, (h.f F hF).nz t ht⟩, (h.f F hF).s, by have := (h.f F hF).l; omega⟩⟩
def shF (a : Nat) (k : Int) (F : List Tm) : List Tm := F.map (shT a k)
theorem sh_ok {m a : Nat} {k : Int} {F : List Tm} (h : DrF m F) (ha : a < m) (k0 : 0 ≤ k) (k3 : k ≤ 3) : ∀ t ∈ shF a k F, OkT m 29 t := by
  intro t ht
  obtain ⟨r, hr, rfl⟩ := List.mem_map.mp ht
  have o := h.ok r hr
  have s := h.sum r hr
  have nn : ∀ x ∈ r.1, 0 ≤ x := fun x hx => (o.pos x hx).1
  refine ⟨by simp [shT, o.len], fun x hx => ?_, o.sz⟩
  rcases List.mem_or_eq_of_mem_set hx with hx | rfl
  · exact o.pos x hx
  · have g := getD_mem (ks := r.1) (a := a) (by rw [o.len]; exact ha)
    have := nn _ g
    have := le_sum nn _ g
    omega
theorem sh_strict {m a : Nat} {k : Int} {F : List Tm} (h : DrF m F) (ha : a < m) : (shF a k F).Pairwise fun a b => a.1 < b.1 := by
  unfold shF
  rw [List.pairwise_map]
  refine (List.Pairwise.imp_of_mem fun {x y} hx hy l => ?_) h.s
  exact sh_lt x.1 y.1 a k l (by rw [(h.ok x hx).len]; exact ha) (by rw [(h.ok y hy).len]; exact ha)
theorem sh_nz {m a : Nat} {k : Int} {F : List Tm} (h : DrF m F) : ∀ t ∈ shF a k F, t.2 ≠ 0 := by
  intro t ht
  obtain ⟨r, hr, rfl⟩ := List.mem_map.mp ht
  exact h.nz r hr
theorem sh_fw {m a : Nat} {k : Int} {F : List Tm} (h : DrF m F) (ha : a < m) : fw (shF a k F) = shF a k F := fw_self (sh_strict h ha) (sh_nz h)
theorem sh_fm {m a : Nat} {k : Int} {F : List Tm} (h : DrF m F) (ha : a < m) (k0 : 0 ≤ k) (k3 : k ≤ 3) : OkFm m (shF a k F) := by
  refine ⟨fun t ht => ?_, sh_strict h ha, by have := h.l; simp only [shF, List.length_map]; omega⟩
  have o := sh_ok h ha k0 k3 t ht
  refine ⟨o.len, fun x hx => (o.pos x hx).1, ?_, sh_nz h t ht⟩
  obtain ⟨r, hr, rfl⟩ := List.mem_map.mp ht
  have s := h.sum r hr
  have e := sum_set r.1 a k (by rw [(h.ok r hr).len]; exact ha)
  show (r.1.set a (r.1.getD a 0 + k)).sum ≤ 8
  rw [e]
  omega
def shS (a : Nat) (k : Int) (S : List (List Tm)) : List (List Tm) := S.map (shF a k)
theorem sh_oks {m a : Nat} {k : Int} {S : List (List Tm)} (h : DrS m S) (ha : a < m) (k0 : 0 ≤ k) (k3 : k ≤ 3) : OkS m 29 7 (shS a k S) := by
  refine ⟨by simp [shS, h.len], h.n1, h.n3, fun F hF => ?_, fun F hF => ?_⟩
  · obtain ⟨G, hG, rfl⟩ := List.mem_map.mp hF
    exact sh_ok (h.f G hG) ha k0 k3
  · obtain ⟨G, hG, rfl⟩ := List.mem_map.mp hF
    have := (h.f G hG).l
    simpa [shF] using this
theorem sh_sys {m a : Nat} {k : Int} {S : List (List Tm)} (h : DrS m S) (ha : a < m) (k0 : 0 ≤ k) (k3 : k ≤ 3) : OkSys m (shS a k S) := by
  refine ⟨by simp [shS, h.len], h.n1, h.n3, fun F hF => ?_⟩
  obtain ⟨G, hG, rfl⟩ := List.mem_map.mp hF
  exact sh_fm (h.f G hG) ha k0 k3
theorem szF07 : SzF 7 29 3 := ⟨by decide, by decide, by decide⟩
/-- what the law's numbers may be long -/
theorem oks_fs {m : Nat} {S : List (List Tm)} {p : List Rat} (h : OkS m 29 7 S) (op : OkPl m 3 p) : ∀ F ∈ S, Sz 1919 (fs p F) := fun F hF => by
  refine (fs_sz op h.n3 F (h.ok F hF)).mono ?_
  have := Nat.mul_le_mul_right (TB 29 3 + 1) (h.fl F hF)
  have e : 7 * (TB 29 3 + 1) + 1 ≤ 1919 := by decide
  omega
theorem oks_sl {m u : Nat} {S : List (List Tm)} {p : List Rat} (h : OkS m 29 7 S) (op : OkPl m 3 p) : ∀ F ∈ S, Sz 1919 (slF p F u) := fun F hF => by
  refine (sl_sz op h.n3 (h.ok F hF)).mono ?_
  have := Nat.mul_le_mul_right (TB (29 + 5) 3 + 1) (h.fl F hF)
  have e : 7 * (TB (29 + 5) 3 + 1) + 1 ≤ 1919 := by decide
  omega
def dueD (p : List Rat) (S : List (List Tm)) : D := .tup (S.map fun F => fr (fs p F))
theorem due_rq (rd : Nat → Option PyData) {m : Nat} {S : List (List Tm)} {p : List Rat} (h : OkS m 29 7 S) (op : OkPl m 3 p) : Rq rd (dueD p S) 40000 20 := by
  refine (Rq.tup (w := 12000) (k := 5) (Rqs.all (w1 := 3849) (fun x hx => ?_) ?_)).mono (by decide) (by decide)
  · obtain ⟨F, hF, rfl⟩ := List.mem_map.mp hx
    exact Rq.fr (k := 4) (oks_fs h op F hF) (by decide)
  · have := h.len
    have := h.n3
    rw [List.length_map]
    omega
theorem tab_rq (rd : Nat → Option PyData) {m : Nat} {S : List (List Tm)} {p : List Rat} (h : OkS m 29 7 S) (op : OkPl m 3 p) : Rq rd (tabF m p S) 40000 20 := by
  refine (Rq.tup (w := 39000) (k := 6) (Rqs.all (w1 := 12003) (fun x hx => ?_) ?_)).mono (by decide) (by decide)
  · obtain ⟨F, hF, rfl⟩ := List.mem_map.mp hx
    refine Rq.tup (w := 12000) (k := 5) (Rqs.all (w1 := 3849) (fun x hx => ?_) ?_)
    · obtain ⟨u, hu, rfl⟩ := List.mem_map.mp hx
      exact Rq.fr (k := 4) (oks_sl h op F hF) (by decide)
    · have := h.n3
      rw [List.length_map, List.length_range]
      omega
  · have := h.len
    have := h.n3
    rw [List.length_map]
    omega
theorem list_reprJ {h : Hh} {k w : Nat} {xs : List D} (e : h[k]? = some (.lst xs)) (f : D.flats xs = true) (r : ∀ rd, Rqs rd xs w 20) (hw : w + 3 ≤ 16777216) : bltD .repr [.ref k] h = .ok (.str (shownD [.lst xs] (.ref 0))) h := by
  rw [repr_ok (Rq.lst (m := 7) e (r _)) hw (by decide)]
  have d := deep_flats (deepR h 7) (deepR [.lst xs] 7) xs f
  have a : (D.ref k).deep h = (match D.deepsW (deepR h 7) xs with | some ys => some (.list ys) | none => none) := by
    show deepR h 8 k = _
    rw [deepR, e] <;> rfl
  have b : (D.ref 0).deep [.lst xs] = (match D.deepsW (deepR [.lst xs] 7) xs with | some ys => some (.list ys) | none => none) := by
    show deepR [.lst xs] 8 0 = _
    rw [deepR] <;> rfl
  unfold shownD
  rw [a, b, d]
theorem told_repr {h : Hh} {k : Nat} {xs : List D} (e : h[k]? = some (.lst xs)) (f : D.flats xs = true) (r : ∀ rd, ∀ x ∈ xs, Rq rd x 40000 20) (l : xs.length ≤ 4) : bltD .repr [.ref k] h = .ok (.str (shownD [.lst xs] (.ref 0))) h :=
  list_reprJ e f (fun rd => Rqs.all (w1 := 40000) (w := 200000) (r rd) (by omega)) (by decide)
/-- the worths, the slopes of the system times a power of one unknown -/
theorem due_sh {m a : Nat} {k : Int} {p : List Rat} {S : List (List Tm)} (h : DrS m S) (ha : a < m) (lp : p.length = m) (k0 : 0 ≤ k) : dueD p (shS a k S) = .tup (S.map fun F => fr (rz (p.getD a 0) k * fs p F)) := by
  unfold dueD shS
  rw [List.map_map]
  congr 1
  refine List.map_congr_left fun F hF => ?_
  show fr (fs p (shF a k F)) = _
  unfold shF
  rw [fs_shift ha lp k0 F (h.f F hF).ok]
def rowN (m a : Nat) (x y : Rat) (p : List Rat) (F : List Tm) : List Rat := ((List.range m).map fun u => x * slF p F u).set a (x * slF p F a + y * fs p F)
theorem row_sh {m a : Nat} {k : Int} {p : List Rat} {F : List Tm} (h : DrF m F) (ha : a < m) (lp : p.length = m) (k0 : 1 ≤ k) :
    rowF m p (shF a k F) = .tup ((rowN m a (rz (p.getD a 0) k) ((k : Rat) * rz (p.getD a 0) (k - 1)) p F).map fr) := by
  unfold rowF rowN
  congr 1
  refine List.ext_getElem (by simp) fun u h1 h2 => ?_
  have hu : u < m := by simpa using h1
  rw [List.getElem_map, List.getElem_map, List.getElem_set, List.getElem_range]
  by_cases c : a = u
  · subst c
    rw [if_pos rfl]
    unfold shF
    rw [slope_same ha lp k0 F h.ok]
  · rw [if_neg c, List.getElem_map, List.getElem_range]
    unfold shF
    rw [slope_other ha hu c lp (by omega) F h.ok]
end HS

/-! Forms of several unknowns: the law's turns. -/
namespace HS
open PySem L2
def L07_0 (f__law_gathered : Nat) : Ss :=
    (.cons (.asg (.nm 11) (.lc (.tup (.cons (.bin .add (.bin .add (.slc (.var 12) .no (.so (.var 8))) (.tup (.cons (.bin .add (.idx (.var 12) (.var 8)) (.var 9)) .nil))) (.slc (.var 12) (.so (.bin .add (.var 8) (.int 1))) .no)) (.cons (.var 13) .nil))) (.tup (.cons (.nm 12) (.cons (.nm 13) .nil))) (.pln (.var 6)) .no [12, 13])) 
    (.cons (.exp (.app (.var 10) (.call f__law_gathered (.cons (.var 11) .nil)))) .nil))
def L07_1 (f__law_times f__law_plus : Nat) : Ss :=
    (.cons (.asg (.nm 19) (.lc (.call f__law_times (.cons (.var 14) (.cons (.var 20) .nil))) (.nm 20) (.pln (.var 17)) .no [20])) 
    (.cons (.asg (.sub (.var 19) (.var 8)) (.call f__law_plus (.cons (.idx (.var 19) (.var 8)) (.cons (.call f__law_times (.cons (.var 15) (.cons (.var 18) .nil))) .nil)))) 
    (.cons (.exp (.app (.var 16) (.blt .tuple (.cons (.var 19) .nil)))) .nil)))
section
variable {Δ : Nat → Fn} {gl : Nat → D}
theorem map_lc {α : Type} {elt : E} {it : It} {ρ : En} {v : Nat} {H : Hh} (enc g : α → D) (items : List α) (ei : evi Δ gl it ρ H = .ok (items.map enc, []) H) (hl : items.length ≤ 100)
    (he : ∀ a ∈ items, ev Δ gl elt ((wipeD ρ [v]).set v (some (enc a))) H = .ok (g a) H) :
    ev Δ gl (.lc elt (.nm v) it .no [v]) ρ H = .ok (.ref H.length) (H ++ [.lst (items.map g)]) := by
  rw [ev_lc ei]
  refine (lc_fmE (gsOk_nil H) enc (fun u => some (g u)) items [] (fun u hu => lc_el (he u hu)) ?_).trans ?_
  · have : (1000 : Nat) < sizeLine := by decide
    simp only [List.length_nil]
    omega
  · rw [List.nil_append, fm_some]
    rfl
theorem map_tup {α : Type} {elt : E} {it : It} {ρ : En} {v : Nat} {H : Hh} (enc g : α → D) (items : List α) (ei : evi Δ gl it ρ H = .ok (items.map enc, []) H) (hl : items.length ≤ 100)
    (he : ∀ a ∈ items, ev Δ gl elt ((wipeD ρ [v]).set v (some (enc a))) H = .ok (g a) H) :
    ev Δ gl (.blt .tuple (.cons (.lc elt (.nm v) it .no [v]) .nil)) ρ H = .ok (.tup (items.map g)) (H ++ [.lst (items.map g)]) := by
  rw [ev, evs, map_lc enc g items ei hl he, R.bind_ok, evs, R.bind_ok, R.bind_ok]
  have := tup_end H [] (items.map g)
  rw [List.append_nil] at this
  exact this
theorem ev_eq2 {a b : E} {ρ : En} {h h1 h2 : Hh} {s : Str} (q : ev Δ gl a ρ h = .ok (.str s) h1) (r : ev Δ gl b ρ h1 = .ok (.str s) h2) : ev Δ gl (.cmp .Eq a b) ρ h = .ok (.bl true) h2 := by
  simp [ev, q, r, cmpD, eqD]
/-- one power more -/
theorem shift_ev {ρ : En} {H : Hh} {ks : List Int} {a : Nat} {k : Int} (h12 : ρ[12]? = some (some (.tup (ks.map .int)))) (h8 : ρ[8]? = some (some (.int (a : Int)))) (h9 : ρ[9]? = some (some (.int k))) (ha : a < ks.length) (hl : ks.length ≤ 3) :
    ev Δ gl (.bin .add (.bin .add (.slc (.var 12) .no (.so (.var 8))) (.tup (.cons (.bin .add (.idx (.var 12) (.var 8)) (.var 9)) .nil))) (.slc (.var 12) (.so (.bin .add (.var 8) (.int 1))) .no)) ρ H = .ok (.tup ((ks.set a (ks.getD a 0 + k)).map .int)) H := by
  have s1 := sl_to ks a H
  have s2 := sl_from ks a H ha
  have ix := ix_ints ks a H ha
  have q : bop .add (.int (ks.getD a 0)) (.int k) H = .ok (.int (ks.getD a 0 + k)) H := rfl
  have q2 : bop .add (.int (a : Int)) (.int 1) H = .ok (.int ((a : Int) + 1)) H := rfl
  have a1 := add_tup ((ks.take a).map D.int) [.int (ks.getD a 0 + k)] H (by simp; omega)
  have a2 := add_tup ((ks.take a).map D.int ++ [.int (ks.getD a 0 + k)]) ((ks.drop (a + 1)).map D.int) H (by simp; omega)
  have ej : (ks.take a).map D.int ++ [.int (ks.getD a 0 + k)] ++ (ks.drop (a + 1)).map D.int = (ks.set a (ks.getD a 0 + k)).map .int := by
    rw [← set_parts ks a (ks.getD a 0 + k) ha]
    simp
  rw [ej] at a2
  simp only [ev, evs, evo, getI, h12, h8, h9, R.bind_ok, s1, ix, q, one_ok, if_true, a1, q2, s2, a2]
theorem shift_lc {n m a : Nat} {k : Int} {F : List Tm} {ρ : En} {H : Hh} (oF : ∀ t ∈ F, OkT m n t) (lF : F.length ≤ 60) (ha : a < m) (hm : m ≤ 3) (h6 : ρ[6]? = some (some (ffm F)))
    (h12 : ∀ x y, (((wipeD ρ [12, 13]).set 12 (some x)).set 13 (some y))[12]? = some (some x)) (h13 : ∀ x y, (((wipeD ρ [12, 13]).set 12 (some x)).set 13 (some y))[13]? = some (some y))
    (h8 : ∀ x y, (((wipeD ρ [12, 13]).set 12 (some x)).set 13 (some y))[8]? = some (some (.int (a : Int)))) (h9 : ∀ x y, (((wipeD ρ [12, 13]).set 12 (some x)).set 13 (some y))[9]? = some (some (.int k))) :
    ev Δ gl (.lc (.tup (.cons (.bin .add (.bin .add (.slc (.var 12) .no (.so (.var 8))) (.tup (.cons (.bin .add (.idx (.var 12) (.var 8)) (.var 9)) .nil))) (.slc (.var 12) (.so (.bin .add (.var 8) (.int 1))) .no)) (.cons (.var 13) .nil))) (.tup (.cons (.nm 12) (.cons (.nm 13) .nil))) (.pln (.var 6)) .no [12, 13]) ρ H =
      .ok (.ref H.length) (H ++ [.lst ((shF a k F).map ftm)]) := by
  rw [ev_lc (evi_plnT (xs := F.map ftm) (a := .var 6) (by rw [ev, h6]; rfl))]
  refine (lc_fmE (gsOk_nil H) ftm (fun t => some (ftm (shT a k t))) F [] (fun t ht => ?_) ?_).trans ?_
  · have ot := oF t ht
    have e1 := shift_ev (Δ := Δ) (gl := gl) (H := H) (h12 (.tup (t.1.map .int)) (fr t.2)) (h8 _ _) (h9 _ _) (by rw [ot.len]; exact ha) (by rw [ot.len]; exact hm)
    have e2 : ev Δ gl (.tup (.cons (.bin .add (.bin .add (.slc (.var 12) .no (.so (.var 8))) (.tup (.cons (.bin .add (.idx (.var 12) (.var 8)) (.var 9)) .nil))) (.slc (.var 12) (.so (.bin .add (.var 8) (.int 1))) .no)) (.cons (.var 13) .nil))) (((wipeD ρ [12, 13]).set 12 (some (.tup (t.1.map .int)))).set 13 (some (fr t.2))) H = .ok (ftm (shT a k t)) H := by
      rw [ev, evs, e1, R.bind_ok, evs, ev, h13]
      simp only [evs, R.bind_ok, two_ok, if_true]
      rfl
    have ea : asn Δ gl (.tup (.cons (.nm 12) (.cons (.nm 13) .nil))) (ftm t) (wipeD ρ [12, 13]) H = .ok (((wipeD ρ [12, 13]).set 12 (some (.tup (t.1.map .int)))).set 13 (some (fr t.2))) H := by
      simp only [ftm, asn, asns, R.bind_ok]
    rw [ea, R.bind_ok, evt, R.bind_ok, if_pos rfl, e2, R.bind_ok, R.calm_ok]
  · have : (1000 : Nat) < sizeLine := by decide
    simp only [List.length_nil]
    omega
  · rw [List.nil_append, fm_some]
    unfold shF
    rw [List.map_map]
    rfl
theorem grown_turn {g m a : Nat} {k : Int} {F : List Tm} (hg : S_formW (Δ g)) (dr : DrF m F) (m1 : 1 ≤ m) (hm : m ≤ 3) (ha : a < m) (k0 : 0 ≤ k) (k3 : k ≤ 3) (v0 v1 v2 v3 v4 v5 v7 v11 v12 v13 v14 v15 v16 v17 v18 v19 v20 : Option D) {h tl : Hh} {gs : List D} (lg : gs.length < 1000) :
    ∃ tl' w11, exs Δ gl (L07_0 g) [v0, v1, v2, v3, v4, v5, some (ffm F), v7, some (.int (a : Int)), some (.int k), some (.ref h.length), v11, v12, v13, v14, v15, v16, v17, v18, v19, v20] (h ++ .lst gs :: tl) =
      .ok (.nx [v0, v1, v2, v3, v4, v5, some (ffm F), v7, some (.int (a : Int)), some (.int k), some (.ref h.length), w11, v12, v13, v14, v15, v16, v17, v18, v19, v20]) (h ++ .lst (gs ++ [ffm (shF a k F)]) :: tl') := by
  have e1 := shift_lc (Δ := Δ) (gl := gl) (n := 29) (k := k) (ρ := [v0, v1, v2, v3, v4, v5, some (ffm F), v7, some (.int (a : Int)), some (.int k), some (.ref h.length), v11, v12, v13, v14, v15, v16, v17, v18, v19, v20]) (H := h ++ .lst gs :: tl) dr.ok (by have := dr.l; omega) ha hm rfl (fun _ _ => rfl) (fun _ _ => rfl) (fun _ _ => rfl) (fun _ _ => rfl)
  have lF : (shF a k F).length ≤ 7 := by have := dr.l; simpa [shF] using this
  have eg := hg m 29 (shF a k F) (h ++ C.lst gs :: tl).length ((h ++ C.lst gs :: tl) ++ [.lst ((shF a k F).map ftm)]) get_end (sh_ok dr ha k0 k3) m1 (by omega) (by
    have := Nat.mul_le_mul_right 30 (show (shF a k F).length + 1 ≤ 8 by omega)
    show ((shF a k F).length + 1) * 30 + 29 + 20 ≤ 8999
    omega)
  rw [sh_fw dr ha] at eg
  have gt : ((h ++ C.lst gs :: tl) ++ [C.lst ((shF a k F).map ftm)])[h.length]? = some (.lst gs) := by rw [mid_app]; exact at_mid
  have st : ((h ++ C.lst gs :: tl) ++ [C.lst ((shF a k F).map ftm)]).set h.length (.lst (gs ++ [ffm (shF a k F)])) = h ++ .lst (gs ++ [ffm (shF a k F)]) :: (tl ++ [.lst ((shF a k F).map ftm)]) := by rw [mid_app, set_mid]
  generalize (h ++ C.lst gs :: tl).length = P at e1 eg
  generalize (h ++ C.lst gs :: tl) ++ [C.lst ((shF a k F).map ftm)] = H1 at e1 eg gt st
  have lo : lstOk (.ref h.length) H1 = .ok (.ref h.length) H1 := by simp only [lstOk, gt]
  have sl : gs.length < sizeLine := Nat.lt_of_lt_of_le lg (by decide)
  have ap : app (.ref h.length) (ffm (shF a k F)) H1 = .ok .non (h ++ .lst (gs ++ [ffm (shF a k F)]) :: (tl ++ [.lst ((shF a k F).map ftm)])) := by simp only [app, gt, if_pos sl, st]
  refine ⟨tl ++ [.lst ((shF a k F).map ftm)], some (.ref P), ?_⟩
  unfold L07_0
  have s1 := ex_asg (i := 11) e1
  simp only [List.set] at s1
  refine (exs_nx s1).trans ?_
  refine (exs_nx (ex_exp (d := .non) ?_)).trans (exs_nil _ _)
  simp only [ev, evs, List.getElem?_cons_zero, List.getElem?_cons_succ, R.bind_ok, lo, eg, ap]
theorem atI_fr {xs : List Rat} {a : Nat} (ha : a < xs.length) : atI (xs.map fr) ((a : Nat) : Int) = some (fr (xs.getD a 0)) := by
  rw [atI_nat (by simpa using ha), List.getElem?_map, List.getElem?_eq_getElem ha]
  simp [List.getD, ha]
theorem rows_turn {i j m a : Nat} {x y s : Rat} {p : List Rat} {F : List Tm} (ht : S_op (· * ·) (Δ i)) (hp : S_op (· + ·) (Δ j)) (ha : a < m) (hm : m ≤ 3) (sx : Sz 60 x) (sy : Sz 60 y) (ss : ∀ u, Sz 1919 (slF p F u)) (sf : Sz 1919 s) (es : s = fs p F)
    (v0 v1 v2 v3 v4 v5 v6 v7 v9 v10 v11 v12 v13 v19 v20 : Option D) {h tl : Hh} {rs : List D} (lr : rs.length < 1000) :
    ∃ tl' w19, exs Δ gl (L07_1 i j) [v0, v1, v2, v3, v4, v5, v6, v7, some (.int (a : Int)), v9, v10, v11, v12, v13, some (fr x), some (fr y), some (.ref h.length), some (rowF m p F), some (fr s), v19, v20] (h ++ .lst rs :: tl) =
      .ok (.nx [v0, v1, v2, v3, v4, v5, v6, v7, some (.int (a : Int)), v9, v10, v11, v12, v13, some (fr x), some (fr y), some (.ref h.length), some (rowF m p F), some (fr s), w19, v20]) (h ++ .lst (rs ++ [.tup ((rowN m a x y p F).map fr)]) :: tl') := by
  subst es
  have e1 := map_lc (Δ := Δ) (gl := gl) (elt := .call i (.cons (.var 14) (.cons (.var 20) .nil))) (it := .pln (.var 17)) (v := 20) (ρ := [v0, v1, v2, v3, v4, v5, v6, v7, some (.int (a : Int)), v9, v10, v11, v12, v13, some (fr x), some (fr y), some (.ref h.length), some (rowF m p F), some (fr (fs p F)), v19, v20]) (H := h ++ .lst rs :: tl)
    (fun u : Nat => fr (slF p F u)) (fun u => fr (x * slF p F u)) (List.range m) (evi_plnT (xs := (List.range m).map fun u => fr (slF p F u)) (a := .var 17) rfl) (by rw [List.length_range]; omega) (fun u _ => by
      have w := ht x (slF p F u) 60 1919 (h ++ .lst rs :: tl) sx (ss u) (by decide)
      simp only [wipeD, List.set, ev, evs, List.getElem?_cons_zero, List.getElem?_cons_succ, R.bind_ok, w])
  have q1 : (List.range m).map (fun u => fr (x * slF p F u)) = ((List.range m).map fun u => x * slF p F u).map fr := by rw [List.map_map]; rfl
  have lx : ((List.range m).map fun u => x * slF p F u).length = m := by simp
  have ga : ((List.range m).map fun u => x * slF p F u).getD a 0 = x * slF p F a := by simp [List.getD, ha]
  have er : (((List.range m).map fun u => x * slF p F u).map fr).set a (fr (x * slF p F a + y * fs p F)) = (rowN m a x y p F).map fr := by
    unfold rowN
    rw [List.map_set]
  rw [q1] at e1
  generalize (List.range m).map (fun u => x * slF p F u) = xs at e1 lx ga er
  have g1 : ∀ c, ((h ++ C.lst rs :: tl) ++ [c])[(h ++ C.lst rs :: tl).length]? = some c := fun c => get_end
  have t1 : ∀ c, ((h ++ C.lst rs :: tl) ++ [c])[h.length]? = some (.lst rs) := fun c => by rw [mid_app]; exact at_mid
  have st : ∀ c, ((h ++ C.lst rs :: tl) ++ [c]).set h.length (.lst (rs ++ [.tup ((rowN m a x y p F).map fr)])) = h ++ .lst (rs ++ [.tup ((rowN m a x y p F).map fr)]) :: (tl ++ [c]) := fun c => by rw [mid_app, set_mid]
  have s2 : ((h ++ C.lst rs :: tl) ++ [C.lst (xs.map fr)]).set (h ++ C.lst rs :: tl).length (.lst ((rowN m a x y p F).map fr)) = (h ++ C.lst rs :: tl) ++ [.lst ((rowN m a x y p F).map fr)] := set_end
  have g1' := g1 (.lst (xs.map fr))
  have g2 := g1 (.lst ((rowN m a x y p F).map fr))
  have t2 := t1 (.lst ((rowN m a x y p F).map fr))
  have st2 := st (.lst ((rowN m a x y p F).map fr))
  generalize (h ++ C.lst rs :: tl).length = P at e1 g1' g2 s2
  generalize (h ++ C.lst rs :: tl) ++ [C.lst (xs.map fr)] = H1 at e1 g1' s2
  generalize (h ++ C.lst rs :: tl) ++ [C.lst ((rowN m a x y p F).map fr)] = H2 at g2 t2 st2 s2
  have at1 := atI_fr (xs := xs) (a := a) (by omega)
  rw [ga] at at1
  have ix : ixD (.ref P) (.int (a : Int)) H1 = .ok (fr (x * slF p F a)) H1 := by
    have q : listAt H1 P = some (xs.map fr) := by simp only [listAt, g1']
    simp only [ixD, q, at1]
  have w1 := ht y (fs p F) 60 1919 H1 sy sf (by decide)
  have w2 := hp (x * slF p F a) (y * fs p F) (60 + 1919) (60 + 1919) H1 (sx.mul (ss a)) (sy.mul sf) (by decide)
  have si : setI (.ref P) (.int (a : Int)) (fr (x * slF p F a + y * fs p F)) H1 = .ok () H2 := by
    have ixn : ixN (xs.map fr).length (a : Int) = some a := by
      unfold ixN
      rw [if_pos (by omega), if_pos (by rw [List.length_map]; omega)]
      rfl
    simp only [setI, g1', ixn]
    rw [er, s2]
  have lo : lstOk (.ref h.length) H2 = .ok (.ref h.length) H2 := by simp only [lstOk, t2]
  have sl : rs.length < sizeLine := Nat.lt_of_lt_of_le lr (by decide)
  have tp : bltD .tuple [.ref P] H2 = .ok (.tup ((rowN m a x y p F).map fr)) H2 := by simp only [bltD, listAt, g2]
  have ap : app (.ref h.length) (.tup ((rowN m a x y p F).map fr)) H2 = .ok .non (h ++ .lst (rs ++ [.tup ((rowN m a x y p F).map fr)]) :: (tl ++ [.lst ((rowN m a x y p F).map fr)])) := by simp only [app, t2, if_pos sl, st2]
  refine ⟨tl ++ [.lst ((rowN m a x y p F).map fr)], some (.ref P), ?_⟩
  unfold L07_1
  have s1 := ex_asg (i := 19) e1
  simp only [List.set] at s1
  refine (exs_nx s1).trans ?_
  refine (exs_nx (h1 := H2) (ρ1 := [v0, v1, v2, v3, v4, v5, v6, v7, some (.int (a : Int)), v9, v10, v11, v12, v13, some (fr x), some (fr y), some (.ref h.length), some (rowF m p F), some (fr (fs p F)), some (.ref P), v20]) ?_).trans ?_
  · simp only [ex, ev, evs, List.getElem?_cons_zero, List.getElem?_cons_succ, R.bind_ok, R.toF_ok, ix, w1, w2, asn, si, R.calm_ok]
  refine (exs_nx (ex_exp (d := .non) ?_)).trans (exs_nil _ _)
  simp only [ev, evs, List.getElem?_cons_zero, List.getElem?_cons_succ, R.bind_ok, lo, tp, ap]
end
end HS

/-! Forms of several unknowns: the law's loops, its last part. -/
namespace HS
open PySem L2
theorem fold_map {α : Type} (g : α → D) : ∀ (l : List α) (acc : List D), l.foldl (fun b x => b ++ [g x]) acc = acc ++ l.map g
  | [], acc => by simp
  | x :: l, acc => by rw [List.foldl_cons, fold_map g l]; simp
theorem pairs_map {α : Type} (f g : α → D) (l : List α) : pairs (l.map f) (l.map g) = l.map fun x => D.tup [f x, g x] := by
  unfold pairs
  induction l with
  | nil => rfl
  | cons x l ih => rw [List.map_cons, List.map_cons, List.map_cons, List.zip_cons_cons, List.map_cons, ih]
def encR (m : Nat) (p : List Rat) (F : List Tm) : D := .tup [rowF m p F, fr (fs p F)]
section
variable {Δ : Nat → Fn} {gl : Nat → D}
theorem grown_loop {g m a : Nat} {k : Int} {S : List (List Tm)} (hg : S_formW (Δ g)) (dr : DrS m S) (ha : a < m) (k0 : 0 ≤ k) (k3 : k ≤ 3) (v0 v1 v2 v3 v4 v5 v6 v7 v11 v12 v13 v14 v15 v16 v17 v18 v19 v20 : Option D) {h : Hh} :
    ∃ tl w6 w11, forL [] (fun d ρ h => asn Δ gl (.nm 6) d ρ h) (fun ρ h => exs Δ gl (L07_0 g) ρ h) (S.map ffm) [v0, v1, v2, v3, v4, v5, v6, v7, some (.int (a : Int)), some (.int k), some (.ref h.length), v11, v12, v13, v14, v15, v16, v17, v18, v19, v20] (h ++ [.lst []]) =
      .ok (.nx [v0, v1, v2, v3, v4, v5, w6, v7, some (.int (a : Int)), some (.int k), some (.ref h.length), w11, v12, v13, v14, v15, v16, v17, v18, v19, v20]) (h ++ .lst ((shS a k S).map ffm) :: tl) := by
  obtain ⟨ρ', H', e1, i2⟩ := for_inv (gs := []) (tg := fun d ρ h => asn Δ gl (.nm 6) d ρ h) (bd := fun ρ h => exs Δ gl (L07_0 g) ρ h) ffm (fun (b : List D) (F : List Tm) => b ++ [ffm (shF a k F)])
    (fun i b ρ H' => b.length = i ∧ ∃ (tl : Hh) (w6 w11 : Option D), H' = h ++ .lst b :: tl ∧ ρ = [v0, v1, v2, v3, v4, v5, w6, v7, some (.int (a : Int)), some (.int k), some (.ref h.length), w11, v12, v13, v14, v15, v16, v17, v18, v19, v20]) (fun _ _ _ _ _ => gsOk_nil _) S 0 []
    [v0, v1, v2, v3, v4, v5, v6, v7, some (.int (a : Int)), some (.int k), some (.ref h.length), v11, v12, v13, v14, v15, v16, v17, v18, v19, v20] (h ++ [.lst []])
    (fun i F b ρ H1 ea ⟨lb, tl, w6, w11, eh, er⟩ => by
      subst eh er
      have hF := dr.f F (List.mem_of_getElem? ea)
      have hi := (List.getElem?_eq_some_iff.mp ea).1
      have := dr.len
      have := dr.n3
      obtain ⟨tl', z11, e2⟩ := grown_turn (Δ := Δ) (gl := gl) hg hF dr.n1 dr.n3 ha k0 k3 v0 v1 v2 v3 v4 v5 v7 w11 v12 v13 v14 v15 v16 v17 v18 v19 v20 (h := h) (tl := tl) (gs := b) (by omega)
      exact ⟨_, _, _, _, by simp only [asn, List.set], e2, by rw [List.length_append, lb]; rfl, tl', _, _, rfl, rfl⟩) ⟨rfl, [], v6, v11, rfl, rfl⟩
  obtain ⟨_, tl, w6, w11, eh, rfl⟩ := i2
  refine ⟨tl, w6, w11, ?_⟩
  rw [e1, eh, fold_map, List.nil_append]
  unfold shS
  rw [List.map_map]
  rfl
theorem rows_loop {i j m a : Nat} {x y : Rat} {p : List Rat} {S : List (List Tm)} (ht : S_op (· * ·) (Δ i)) (hp : S_op (· + ·) (Δ j)) (dr : DrS m S) (op : OkPl m 3 p) (ha : a < m) (sx : Sz 60 x) (sy : Sz 60 y)
    (v0 v1 v2 v3 v4 v5 v6 v7 v9 v10 v11 v12 v13 v17 v18 v19 v20 : Option D) {h : Hh} :
    ∃ tl w17 w18 w19, forL [] (fun d ρ h => asn Δ gl (.tup (.cons (.nm 17) (.cons (.nm 18) .nil))) d ρ h) (fun ρ h => exs Δ gl (L07_1 i j) ρ h) (S.map (encR m p)) [v0, v1, v2, v3, v4, v5, v6, v7, some (.int (a : Int)), v9, v10, v11, v12, v13, some (fr x), some (fr y), some (.ref h.length), v17, v18, v19, v20] (h ++ [.lst []]) =
      .ok (.nx [v0, v1, v2, v3, v4, v5, v6, v7, some (.int (a : Int)), v9, v10, v11, v12, v13, some (fr x), some (fr y), some (.ref h.length), w17, w18, w19, v20]) (h ++ .lst (S.map fun F => .tup ((rowN m a x y p F).map fr)) :: tl) := by
  obtain ⟨ρ', H', e1, i2⟩ := for_inv (gs := []) (tg := fun d ρ h => asn Δ gl (.tup (.cons (.nm 17) (.cons (.nm 18) .nil))) d ρ h) (bd := fun ρ h => exs Δ gl (L07_1 i j) ρ h) (encR m p) (fun (b : List D) (F : List Tm) => b ++ [D.tup ((rowN m a x y p F).map fr)])
    (fun c b ρ H' => b.length = c ∧ ∃ (tl : Hh) (w17 w18 w19 : Option D), H' = h ++ .lst b :: tl ∧ ρ = [v0, v1, v2, v3, v4, v5, v6, v7, some (.int (a : Int)), v9, v10, v11, v12, v13, some (fr x), some (fr y), some (.ref h.length), w17, w18, w19, v20]) (fun _ _ _ _ _ => gsOk_nil _) S 0 []
    [v0, v1, v2, v3, v4, v5, v6, v7, some (.int (a : Int)), v9, v10, v11, v12, v13, some (fr x), some (fr y), some (.ref h.length), v17, v18, v19, v20] (h ++ [.lst []])
    (fun c F b ρ H1 ea ⟨lb, tl, w17, w18, w19, eh, er⟩ => by
      subst eh er
      have mF := List.mem_of_getElem? ea
      have hi := (List.getElem?_eq_some_iff.mp ea).1
      have := dr.len
      have := dr.n3
      obtain ⟨tl', z19, e2⟩ := rows_turn (Δ := Δ) (gl := gl) ht hp ha dr.n3 sx sy (fun u => oks_sl (u := u) dr.oks op F mF) (oks_fs dr.oks op F mF) rfl v0 v1 v2 v3 v4 v5 v6 v7 v9 v10 v11 v12 v13 w19 v20 (h := h) (tl := tl) (rs := b) (by omega)
      refine ⟨[v0, v1, v2, v3, v4, v5, v6, v7, some (.int (a : Int)), v9, v10, v11, v12, v13, some (fr x), some (fr y), some (.ref h.length), some (rowF m p F), some (fr (fs p F)), w19, v20], _, _, _, by simp only [encR, asn, asns, R.bind_ok, List.set], e2, by rw [List.length_append, lb]; rfl, tl', _, _, _, rfl, rfl⟩) ⟨rfl, [], v17, v18, v19, rfl, rfl⟩
  obtain ⟨_, tl, w17, w18, w19, eh, rfl⟩ := i2
  refine ⟨tl, w17, w18, w19, ?_⟩
  rw [e1, eh, fold_map, List.nil_append]
def T07_13 (f_worth f_slopes f__law_times : Nat) : Ss :=
  (.cons (.asg (.nm 7) (.lst (.cons (.call f_worth (.cons (.blt .tuple (.cons (.var 10) .nil)) (.cons (.var 3) .nil))) (.cons (.call f_slopes (.cons (.blt .tuple (.cons (.var 10) .nil)) (.cons (.var 3) .nil))) .nil)))) 
  (.cons (.ret (.cmp .Eq (.blt .repr (.cons (.var 7) .nil)) (.blt .repr (.cons (.lst (.cons (.blt .tuple (.cons (.lc (.call f__law_times (.cons (.var 14) (.cons (.var 20) .nil))) (.nm 20) (.pln (.var 4)) .no [20]) .nil)) (.cons (.blt .tuple (.cons (.var 16) .nil)) .nil))) .nil)))) .nil))
theorem flats_two {a b : D} (ha : a.flat = true) (hb : b.flat = true) : D.flats [a, b] = true := by simp [D.flats, ha, hb]
theorem dueD_flat (p : List Rat) (S : List (List Tm)) : (dueD p S).flat = true := duesD_flat p S
theorem tail13 {w s t m a T T2 : Nat} {k : Int} {x : Rat} {p : List Rat} {S : List (List Tm)} (hw : S_dueL (Δ w)) (hs : S_tabL (Δ s)) (ht : S_op (· * ·) (Δ t)) (dr : DrS m S) (op : OkPl m 3 p) (ha : a < m) (k0 : 1 ≤ k) (k3 : k ≤ 3) (ex : x = rz (p.getD a 0) k) (sx : Sz 60 x)
    (v0 v1 v2 v5 v6 v7 v8 v9 v11 v12 v13 v15 v17 v18 v19 v20 : Option D) {H : Hh} (g1 : H[T]? = some (.lst ((shS a k S).map ffm))) (g2 : H[T2]? = some (.lst ((shS a k S).map (rowF m p)))) :
    ∃ H', exs Δ gl (T07_13 w s t) [v0, v1, v2, some (.tup (p.map fr)), some (dueD p S), v5, v6, v7, v8, v9, some (.ref T), v11, v12, v13, some (fr x), v15, some (.ref T2), v17, v18, v19, v20] H = .ok (.rt (.bl true)) H' := by
  have ok := sh_oks dr ha (by omega) k3
  have sy := sh_sys dr ha (by omega) k3
  have e1 := hw m 29 3 7 (shS a k S) p H sy ok op (by decide) szF07
  have e2 := hs m 29 3 7 (shS a k S) p H sy ok op (by decide) szF07
  have tp : bltD .tuple [.ref T] H = .ok (sysD (shS a k S)) H := by simp only [bltD, listAt, g1]; rfl
  have e3 : ev Δ gl (.lst (.cons (.call w (.cons (.blt .tuple (.cons (.var 10) .nil)) (.cons (.var 3) .nil))) (.cons (.call s (.cons (.blt .tuple (.cons (.var 10) .nil)) (.cons (.var 3) .nil))) .nil))) [v0, v1, v2, some (.tup (p.map fr)), some (dueD p S), v5, v6, v7, v8, v9, some (.ref T), v11, v12, v13, some (fr x), v15, some (.ref T2), v17, v18, v19, v20] H =
      .ok (.ref H.length) (H ++ [.lst [dueD p (shS a k S), tabF m p (shS a k S)]]) := by
    simp only [ev, evs, List.getElem?_cons_zero, List.getElem?_cons_succ, R.bind_ok, tp, e1, e2, two_ok, if_true]
    rfl
  have fl : D.flats [dueD p (shS a k S), tabF m p (shS a k S)] = true := flats_two (dueD_flat _ _) (tabF_flat _ _ _)
  have rq : ∀ rd, ∀ x ∈ [dueD p (shS a k S), tabF m p (shS a k S)], Rq rd x 40000 20 := fun rd x hx => by
    rcases List.mem_cons.mp hx with rfl | hx
    · exact due_rq rd ok op
    · rw [List.mem_singleton.mp hx]
      exact tab_rq rd ok op
  have eq1 := due_sh (k := k) dr ha op.len (by omega)
  rw [← ex] at eq1
  generalize dueD p (shS a k S) = dA at e3 fl rq eq1
  have eq2 : tabF m p (shS a k S) = .tup ((shS a k S).map (rowF m p)) := rfl
  rw [eq2] at e3 fl rq
  generalize (shS a k S).map (rowF m p) = rws at g2 e3 fl rq
  have r1 := told_repr (h := H ++ [.lst [dA, .tup rws]]) get_end fl rq (by simp)
  have g3 : (H ++ [C.lst [dA, .tup rws]])[T2]? = some (.lst rws) := at_app g2
  generalize H.length = P at e3 r1
  generalize H ++ [C.lst [dA, .tup rws]] = H1 at e3 r1 g3
  have e4 := map_tup (Δ := Δ) (gl := gl) (elt := .call t (.cons (.var 14) (.cons (.var 20) .nil))) (it := .pln (.var 4)) (v := 20) (ρ := [v0, v1, v2, some (.tup (p.map fr)), some (dueD p S), v5, v6, some (.ref P), v8, v9, some (.ref T), v11, v12, v13, some (fr x), v15, some (.ref T2), v17, v18, v19, v20]) (H := H1)
    (fun F => fr (fs p F)) (fun F => fr (x * fs p F)) S (evi_plnT (xs := S.map fun F => fr (fs p F)) (a := .var 4) rfl) (by have := dr.len; have := dr.n3; omega) (fun F hF => by
      have w := ht x (fs p F) 60 1919 H1 sx (oks_fs dr.oks op F hF) (by decide)
      simp only [wipeD, List.set, ev, evs, List.getElem?_cons_zero, List.getElem?_cons_succ, R.bind_ok, w])
  rw [← eq1] at e4
  have g4 : (H1 ++ [.lst (S.map fun F => fr (x * fs p F))])[T2]? = some (.lst rws) := at_app g3
  generalize H1 ++ [C.lst (S.map fun F => fr (x * fs p F))] = H2 at e4 g4
  have tp2 : bltD .tuple [.ref T2] H2 = .ok (.tup rws) H2 := by simp only [bltD, listAt, g4]
  have e5 : ev Δ gl (.lst (.cons (.blt .tuple (.cons (.lc (.call t (.cons (.var 14) (.cons (.var 20) .nil))) (.nm 20) (.pln (.var 4)) .no [20]) .nil)) (.cons (.blt .tuple (.cons (.var 16) .nil)) .nil))) [v0, v1, v2, some (.tup (p.map fr)), some (dueD p S), v5, v6, some (.ref P), v8, v9, some (.ref T), v11, v12, v13, some (fr x), v15, some (.ref T2), v17, v18, v19, v20] H1 =
      .ok (.ref H2.length) (H2 ++ [.lst [dA, .tup rws]]) := by
    rw [ev, evs, e4, R.bind_ok, evs, ev, evs, ev]
    simp only [evs, List.getElem?_cons_zero, List.getElem?_cons_succ, R.bind_ok, tp2, two_ok, if_true]
    rfl
  have r2 := told_repr (h := H2 ++ [.lst [dA, .tup rws]]) get_end fl rq (by simp)
  refine ⟨H2 ++ [.lst [dA, .tup rws]], ?_⟩
  unfold T07_13
  have s1 := ex_asg (i := 7) e3
  simp only [List.set] at s1
  refine (exs_nx s1).trans ?_
  refine exs_rt ?_
  refine ev_eq2 (h1 := H1) (ev_repr (d := .ref P) (h1 := H1) ?_ r1) (ev_repr e5 r2)
  simp only [ev, List.getElem?_cons_zero, List.getElem?_cons_succ]
end
end HS

/-! Forms of several unknowns: the law, its second half. -/
namespace HS
open PySem L2
def T07_7 (f_worth f_slopes f__law_pull f__law_gathered f__law_raised f__law_times f__law_plus : Nat) : Ss :=
  (.cons (.asg (.tup (.cons (.nm 8) (.cons (.nm 9) .nil))) (.tup (.cons (.call f__law_pull (.cons (.var 0) (.cons (.var 2) .nil))) (.cons (.bin .add (.int 1) (.call f__law_pull (.cons (.var 0) (.cons (.int 3) .nil)))) .nil)))) 
  (.cons (.asg (.nm 10) (.lst .nil)) 
  (.cons (.fr (.nm 6) (.pln (.var 1)) (L07_0 f__law_gathered)) 
  (.cons (.asg (.tup (.cons (.nm 14) (.cons (.nm 15) .nil))) (.tup (.cons (.call f__law_raised (.cons (.idx (.var 3) (.var 8)) (.cons (.var 9) .nil))) (.cons (.call f__law_times (.cons (.tup (.cons (.var 9) (.cons (.int 1) .nil))) (.cons (.call f__law_raised (.cons (.idx (.var 3) (.var 8)) (.cons (.bin .sub (.var 9) (.int 1)) .nil))) .nil))) .nil)))) 
  (.cons (.asg (.nm 16) (.lst .nil)) 
  (.cons (.fr (.tup (.cons (.nm 17) (.cons (.nm 18) .nil))) (.zip (.var 5) (.var 4)) (L07_1 f__law_times f__law_plus)) 
  (T07_13 f_worth f_slopes f__law_times)))))))
section
variable {Δ : Nat → Fn} {gl : Nat → D}
theorem nil_ev (ρ : En) (H : Hh) : ev Δ gl (.lst .nil) ρ H = .ok (.ref H.length) (H ++ [.lst []]) := by
  rw [ev, evs, R.bind_ok]
  rfl
/-- what the terms are to be multiplied with -/
theorem by_ev {r t m a : Nat} {k : Int} {p : List Rat} {ρ : En} {H : Hh} (hr : S_rz (Δ r)) (ht : S_op (· * ·) (Δ t)) (op : OkPl m 3 p) (ha : a < m) (k1 : 1 ≤ k) (k3 : k ≤ 3)
    (h3 : ρ[3]? = some (some (.tup (p.map fr)))) (h8 : ρ[8]? = some (some (.int (a : Int)))) (h9 : ρ[9]? = some (some (.int k))) :
    ev Δ gl (.tup (.cons (.call r (.cons (.idx (.var 3) (.var 8)) (.cons (.var 9) .nil))) (.cons (.call t (.cons (.tup (.cons (.var 9) (.cons (.int 1) .nil))) (.cons (.call r (.cons (.idx (.var 3) (.var 8)) (.cons (.bin .sub (.var 9) (.int 1)) .nil))) .nil))) .nil))) ρ H =
      .ok (.tup [fr (rz (p.getD a 0) k), fr ((k : Rat) * rz (p.getD a 0) (k - 1))]) H := by
  have la : a < p.length := by rw [op.len]; exact ha
  have sx : Sz 3 (p.getD a 0) := by
    have : p.getD a 0 = p[a] := by simp [List.getD, la]
    rw [this]
    exact op.sz _ (List.getElem_mem la)
  have ix : ixD (.tup (p.map fr)) (.int (a : Int)) H = .ok (fr (p.getD a 0)) H := by
    simp only [ixD, atI_fr la]
  have w1 := hr (p.getD a 0) k 3 H sx (by omega) (by omega) (by decide)
  have w2 := hr (p.getD a 0) (k - 1) 3 H sx (by omega) (by omega) (by decide)
  have w3 := ht (k : Rat) (rz (p.getD a 0) (k - 1)) 5 49 H (sz_int5 (by omega) (by omega)) (rz_sz sx (by omega) (by omega)) (by decide)
  have w3 : Δ t [.tup [.int k, .int 1], fr (rz (p.getD a 0) (k - 1))] H = .ok (fr ((k : Rat) * rz (p.getD a 0) (k - 1))) H := w3
  have q : bop .sub (.int k) (.int 1) H = .ok (.int (k - 1)) H := rfl
  simp only [ev, evs, h3, h8, h9, R.bind_ok, ix, w1, q, w2, two_ok, if_true, w3]
set_option maxHeartbeats 1000000 in
theorem tail7 {w s j g r t l n m : Nat} {p : List Rat} {S : List (List Tm)} (hw : S_dueL (Δ w)) (hs : S_tabL (Δ s)) (hj : S_pull (Δ j)) (hg : S_formW (Δ g)) (hr : S_rz (Δ r)) (ht : S_op (· * ·) (Δ t)) (hl : S_op (· + ·) (Δ l)) (dr : DrS m S) (op : OkPl m 3 p)
    (v6 v7 v8 v9 v10 v11 v12 v13 v14 v15 v16 v17 v18 v19 v20 : Option D) {H : Hh} (ua : UAt n N0 H) :
    ∃ H', exs Δ gl (T07_7 w s j g r t l) [some (.ref n), some (sysD S), some (.int (m : Int)), some (.tup (p.map fr)), some (dueD p S), some (tabF m p S), v6, v7, v8, v9, v10, v11, v12, v13, v14, v15, v16, v17, v18, v19, v20] H = .ok (.rt (.bl true)) H' := by
  have m1 := dr.n1
  have m3 := dr.n3
  obtain ⟨a, H1, e1, a0, a1, u1⟩ := hj n (m : Int) H ua (by omega) (by omega)
  obtain ⟨a, rfl⟩ := Int.eq_ofNat_of_zero_le a0
  have ha : a < m := by omega
  obtain ⟨v, H2, e2, v0, v1, u2⟩ := hj n 3 H1 u1.at_ (by decide) (by decide)
  have b2 : bop .add (.int 1) (.int v) H2 = .ok (.int (1 + v)) H2 := rfl
  have k1 : 1 ≤ 1 + v := by omega
  have k3 : 1 + v ≤ 3 := by omega
  generalize 1 + v = k at b2 k1 k3
  have s1 : ex Δ gl (.asg (.tup (.cons (.nm 8) (.cons (.nm 9) .nil))) (.tup (.cons (.call j (.cons (.var 0) (.cons (.var 2) .nil))) (.cons (.bin .add (.int 1) (.call j (.cons (.var 0) (.cons (.int 3) .nil)))) .nil)))) [some (.ref n), some (sysD S), some (.int (m : Int)), some (.tup (p.map fr)), some (dueD p S), some (tabF m p S), v6, v7, v8, v9, v10, v11, v12, v13, v14, v15, v16, v17, v18, v19, v20] H =
      .ok (.nx [some (.ref n), some (sysD S), some (.int (m : Int)), some (.tup (p.map fr)), some (dueD p S), some (tabF m p S), v6, v7, some (.int (a : Int)), some (.int k), v10, v11, v12, v13, v14, v15, v16, v17, v18, v19, v20]) H2 := by
    simp only [ex, ev, evs, List.getElem?_cons_zero, List.getElem?_cons_succ, R.bind_ok, e1, e2, b2, two_ok, if_true, R.toF_ok, asn, asns, R.calm_ok, List.set]
  have s2 := ex_asg (Δ := Δ) (gl := gl) (i := 10) (nil_ev [some (.ref n), some (sysD S), some (.int (m : Int)), some (.tup (p.map fr)), some (dueD p S), some (tabF m p S), v6, v7, some (.int (a : Int)), some (.int k), v10, v11, v12, v13, v14, v15, v16, v17, v18, v19, v20] H2)
  simp only [List.set] at s2
  obtain ⟨tl, w6, w11, e3⟩ := grown_loop (Δ := Δ) (gl := gl) (S := S) hg dr ha (by omega) k3 (some (.ref n)) (some (sysD S)) (some (.int (m : Int))) (some (.tup (p.map fr))) (some (dueD p S)) (some (tabF m p S)) v6 v7 v11 v12 v13 v14 v15 v16 v17 v18 v19 v20 (h := H2)
  have g3 : (H2 ++ C.lst ((shS a k S).map ffm) :: tl)[H2.length]? = some (.lst ((shS a k S).map ffm)) := at_mid
  generalize H2.length = T at s2 e3 g3
  generalize H2 ++ C.lst ((shS a k S).map ffm) :: tl = H3 at e3 g3
  have e4 := by_ev (Δ := Δ) (gl := gl) (H := H3) (ρ := [some (.ref n), some (sysD S), some (.int (m : Int)), some (.tup (p.map fr)), some (dueD p S), some (tabF m p S), w6, v7, some (.int (a : Int)), some (.int k), some (.ref T), w11, v12, v13, v14, v15, v16, v17, v18, v19, v20]) hr ht op ha k1 k3 rfl rfl rfl
  have la : a < p.length := by rw [op.len]; exact ha
  have sp : Sz 3 (p.getD a 0) := by
    have : p.getD a 0 = p[a] := by simp [List.getD, la]
    rw [this]
    exact op.sz _ (List.getElem_mem la)
  have sx : Sz 60 (rz (p.getD a 0) k) := (rz_sz sp (by omega) (by omega)).mono (by decide)
  have sy : Sz 60 ((k : Rat) * rz (p.getD a 0) (k - 1)) := ((sz_int5 (by omega) (by omega)).mul (rz_sz sp (by omega) (by omega))).mono (by decide)
  have er : (shS a k S).map (rowF m p) = S.map fun F => D.tup ((rowN m a (rz (p.getD a 0) k) ((k : Rat) * rz (p.getD a 0) (k - 1)) p F).map fr) := by
    unfold shS
    rw [List.map_map]
    exact List.map_congr_left fun F hF => row_sh (dr.f F hF) ha op.len k1
  generalize ex0 : rz (p.getD a 0) k = x at e4 sx er
  generalize (k : Rat) * rz (p.getD a 0) (k - 1) = y at e4 sy er
  have s4 : ex Δ gl (.asg (.tup (.cons (.nm 14) (.cons (.nm 15) .nil))) (.tup (.cons (.call r (.cons (.idx (.var 3) (.var 8)) (.cons (.var 9) .nil))) (.cons (.call t (.cons (.tup (.cons (.var 9) (.cons (.int 1) .nil))) (.cons (.call r (.cons (.idx (.var 3) (.var 8)) (.cons (.bin .sub (.var 9) (.int 1)) .nil))) .nil))) .nil))))
      [some (.ref n), some (sysD S), some (.int (m : Int)), some (.tup (p.map fr)), some (dueD p S), some (tabF m p S), w6, v7, some (.int (a : Int)), some (.int k), some (.ref T), w11, v12, v13, v14, v15, v16, v17, v18, v19, v20] H3 =
      .ok (.nx [some (.ref n), some (sysD S), some (.int (m : Int)), some (.tup (p.map fr)), some (dueD p S), some (tabF m p S), w6, v7, some (.int (a : Int)), some (.int k), some (.ref T), w11, v12, v13, some (fr x), some (fr y), v16, v17, v18, v19, v20]) H3 := by
    rw [ex, e4]
    simp only [R.toF_ok, asn, asns, R.bind_ok, R.calm_ok, List.set]
  have s5 := ex_asg (Δ := Δ) (gl := gl) (i := 16) (nil_ev [some (.ref n), some (sysD S), some (.int (m : Int)), some (.tup (p.map fr)), some (dueD p S), some (tabF m p S), w6, v7, some (.int (a : Int)), some (.int k), some (.ref T), w11, v12, v13, some (fr x), some (fr y), v16, v17, v18, v19, v20] H3)
  simp only [List.set] at s5
  obtain ⟨tl2, w17, w18, w19, e6⟩ := rows_loop (Δ := Δ) (gl := gl) (S := S) (x := x) (y := y) ht hl dr op ha sx sy (some (.ref n)) (some (sysD S)) (some (.int (m : Int))) (some (.tup (p.map fr))) (some (dueD p S)) (some (tabF m p S)) w6 v7 (some (.int k)) (some (.ref T)) w11 v12 v13 v17 v18 v19 v20 (h := H3)
  rw [← er] at e6
  have g4 : (H3 ++ C.lst ((shS a k S).map (rowF m p)) :: tl2)[T]? = some (.lst ((shS a k S).map ffm)) := at_app g3
  have g5 : (H3 ++ C.lst ((shS a k S).map (rowF m p)) :: tl2)[H3.length]? = some (.lst ((shS a k S).map (rowF m p))) := at_mid
  generalize H3.length = T2 at s5 e6 g5
  generalize H3 ++ C.lst ((shS a k S).map (rowF m p)) :: tl2 = H4 at e6 g4 g5
  obtain ⟨H5, e7⟩ := tail13 (gl := gl) (Δ := Δ) (k := k) (x := x) hw hs ht dr op ha k1 k3 ex0.symm sx (some (.ref n)) (some (sysD S)) (some (.int (m : Int))) (some (tabF m p S)) w6 v7 (some (.int (a : Int))) (some (.int k)) w11 v12 v13 (some (fr y)) w17 w18 w19 v20 g4 g5
  refine ⟨H5, ?_⟩
  unfold T07_7
  refine (exs_nx s1).trans ((exs_nx s2).trans ?_)
  refine (exs_nx (ex_for (p := S.map ffm) (gs := []) (h1 := H2 ++ [.lst []]) (evi_plnT (a := .var 1) rfl) e3)).trans ?_
  refine (exs_nx s4).trans ((exs_nx s5).trans ?_)
  refine (exs_nx (ex_for (p := S.map (encR m p)) (gs := []) (h1 := H3 ++ [.lst []]) ?_ e6)).trans e7
  have q := evi_zipT (Δ := Δ) (gl := gl) (a := .var 5) (b := .var 4) (ρ := [some (.ref n), some (sysD S), some (.int (m : Int)), some (.tup (p.map fr)), some (dueD p S), some (tabF m p S), w6, v7, some (.int (a : Int)), some (.int k), some (.ref T), w11, v12, v13, some (fr x), some (fr y), some (.ref T2), v17, v18, v19, v20]) (h := H3 ++ [.lst []]) (xs := S.map (rowF m p)) (ys := S.map fun F => fr (fs p F)) rfl rfl
  rw [pairs_map] at q
  exact q
end
end HS

/-! Forms of several unknowns: the law. -/
namespace HS
open PySem L2
def B07r (f__law_drawn_system f__law_drawn_place f__law_worth f__law_slopes f_worth f_slopes f__law_pull f__law_gathered f__law_raised f__law_times f__law_plus : Nat) : Ss :=
  (.cons (.asg (.nm 1) (.call f__law_drawn_system (.cons (.var 0) (.cons (.int 3) .nil)))) 
  (.cons (.asg (.nm 2) (.blt .len (.cons (.var 1) .nil))) 
  (.cons (.asg (.nm 3) (.call f__law_drawn_place (.cons (.var 0) (.cons (.var 2) .nil)))) 
  (.cons (.asg (.tup (.cons (.nm 4) (.cons (.nm 5) .nil))) (.tup (.cons (.blt .tuple (.cons (.lc (.call f__law_worth (.cons (.var 6) (.cons (.var 3) .nil))) (.nm 6) (.pln (.var 1)) .no [6]) .nil)) (.cons (.call f__law_slopes (.cons (.var 1) (.cons (.var 3) .nil))) .nil)))) 
  (.cons (.asg (.nm 7) (.lst (.cons (.call f_worth (.cons (.var 1) (.cons (.var 3) .nil))) (.cons (.callk f_worth .nil [1, 0] (.cons (.var 3) (.cons (.var 1) .nil))) (.cons (.call f_slopes (.cons (.var 1) (.cons (.var 3) .nil))) (.cons (.callk f_slopes .nil [1, 0] (.cons (.var 3) (.cons (.var 1) .nil))) .nil)))))) 
  (.cons (.ife (.cmp .NotEq (.blt .repr (.cons (.var 7) .nil)) (.blt .repr (.cons (.lst (.cons (.var 4) (.cons (.var 4) (.cons (.var 5) (.cons (.var 5) .nil))))) .nil))) (
    (.cons (.ret (.bl false)) .nil)) (.nil)) 
  (T07_7 f_worth f_slopes f__law_pull f__law_gathered f__law_raised f__law_times f__law_plus)))))))
def F07r (f__law_drawn_system f__law_drawn_place f__law_worth f__law_slopes f_worth f_slopes f__law_pull f__law_gathered f__law_raised f__law_times f__law_plus : Nat) : Df := ⟨1, 21, B07r f__law_drawn_system f__law_drawn_place f__law_worth f__law_slopes f_worth f_slopes f__law_pull f__law_gathered f__law_raised f__law_times f__law_plus⟩
def B07 (f__law_right f__law_sack : Nat) : Ss :=
  (.cons (.ret (.blt .all (.cons (.lc (.call f__law_right (.cons (.call f__law_sack (.cons (.var 0) (.cons (.var 1) .nil))) .nil)) (.nm 1) (.rng (.cons (.blt .max (.cons (.int 2) (.cons (.blt .min (.cons (.blt .len (.cons (.var 0) .nil)) (.cons (.int 4) .nil))) .nil))) .nil)) .no [1]) .nil))) .nil)
def F07 (f__law_right f__law_sack : Nat) : Df := ⟨1, 2, B07 f__law_right f__law_sack⟩
def S_rightJ (f : Fn) : Prop := ∀ (n : Nat) h, UAt n N0 h → ∃ h', f [.ref n] h = .ok (.bl true) h'
theorem four_ok (a b c d : D) : lineOk ([a, b, c, d] : List D).length = true := by show lineOk 4 = true; decide
theorem flats_four {a b : D} (ha : a.flat = true) (hb : b.flat = true) : D.flats [a, a, b, b] = true := by simp [D.flats, ha, hb]
theorem flat_true {h h' : Hh} : ∃ h9, tidy h (.bl true) h' = .ok (.bl true) h9 := by
  rcases tidy_flat (h := h) (h' := h') (d := .bl true) rfl with q | q
  · exact ⟨_, q⟩
  · exact ⟨_, q⟩
section
variable {Δ : Nat → Fn} {gl : Nat → D}
set_option maxHeartbeats 1000000 in
theorem s_law_right07 {y c o q w s j g r t l : Nat} (hy : S_sys7 (Δ y)) (hc : S_place7 (Δ c)) (ho : S_wf (Δ o)) (hq : S_tab (Δ q)) (hw : S_dueL (Δ w)) (hs : S_tabL (Δ s)) (hj : S_pull (Δ j)) (hg : S_formW (Δ g)) (hr : S_rz (Δ r)) (ht : S_op (· * ·) (Δ t)) (hl : S_op (· + ·) (Δ l)) :
    S_rightJ (run Δ gl (F07r y c o q w s j g r t l)) := by
  intro n h ua
  obtain ⟨m, S, h1, e1, dr, u1⟩ := hy n h ua
  obtain ⟨p, h2, e2, op, u2⟩ := hc n m h1 u1.at_ dr.n1 dr.n3
  have ok := dr.oks
  have sy := dr.sys
  have ln : bltD .len [sysD S] h1 = .ok (.int (m : Int)) h1 := by
    show R.ok (D.int ((S.map ffm).length : Int)) h1 = _
    rw [List.length_map, dr.len]
  have s1 := ex_asg (Δ := Δ) (gl := gl) (i := 1) (e := .call y (.cons (.var 0) (.cons (.int 3) .nil))) (ρ := [some (.ref n), none, none, none, none, none, none, none, none, none, none, none, none, none, none, none, none, none, none, none, none]) (h := h) (h1 := h1) (d := sysD S) (by
    simp only [ev, evs, List.getElem?_cons_zero, R.bind_ok, e1])
  have s2 := ex_asg (Δ := Δ) (gl := gl) (i := 2) (e := .blt .len (.cons (.var 1) .nil)) (ρ := [some (.ref n), some (sysD S), none, none, none, none, none, none, none, none, none, none, none, none, none, none, none, none, none, none, none]) (h := h1) (h1 := h1) (d := .int (m : Int)) (by
    simp only [ev, evs, List.getElem?_cons_zero, List.getElem?_cons_succ, R.bind_ok, ln])
  have s3 := ex_asg (Δ := Δ) (gl := gl) (i := 3) (e := .call c (.cons (.var 0) (.cons (.var 2) .nil))) (ρ := [some (.ref n), some (sysD S), some (.int (m : Int)), none, none, none, none, none, none, none, none, none, none, none, none, none, none, none, none, none, none]) (h := h1) (h1 := h2) (d := .tup (p.map fr)) (by
    simp only [ev, evs, List.getElem?_cons_zero, List.getElem?_cons_succ, R.bind_ok, e2])
  simp only [List.set] at s1 s2 s3
  have e4 := map_tup (Δ := Δ) (gl := gl) (elt := .call o (.cons (.var 6) (.cons (.var 3) .nil))) (it := .pln (.var 1)) (v := 6) (ρ := [some (.ref n), some (sysD S), some (.int (m : Int)), some (.tup (p.map fr)), none, none, none, none, none, none, none, none, none, none, none, none, none, none, none, none, none]) (H := h2)
    ffm (fun F => fr (fs p F)) S (evi_plnT (xs := S.map ffm) (a := .var 1) rfl) (by have := dr.len; have := dr.n3; omega) (fun F hF => by
      have w := ho m 29 3 F p h2 (ok.ok F hF) op dr.n3 (szF07.wf (ok.fl F hF))
      simp only [wipeD, List.set, ev, evs, List.getElem?_cons_zero, List.getElem?_cons_succ, R.bind_ok, w])
  have e4 : ev Δ gl (.blt .tuple (.cons (.lc (.call o (.cons (.var 6) (.cons (.var 3) .nil))) (.nm 6) (.pln (.var 1)) .no [6]) .nil)) [some (.ref n), some (sysD S), some (.int (m : Int)), some (.tup (p.map fr)), none, none, none, none, none, none, none, none, none, none, none, none, none, none, none, none, none] h2 = .ok (dueD p S) (h2 ++ [.lst (S.map fun F => fr (fs p F))]) := e4
  have u3 : Up n N0 h (h2 ++ [.lst (S.map fun F => fr (fs p F))]) := (u1.trans u2).push7
  generalize h2 ++ [C.lst (S.map fun F => fr (fs p F))] = h3 at e4 u3
  have e5 := hq m 29 3 7 S p h3 ok op (by decide) szF07
  have s4 : ex Δ gl (.asg (.tup (.cons (.nm 4) (.cons (.nm 5) .nil))) (.tup (.cons (.blt .tuple (.cons (.lc (.call o (.cons (.var 6) (.cons (.var 3) .nil))) (.nm 6) (.pln (.var 1)) .no [6]) .nil)) (.cons (.call q (.cons (.var 1) (.cons (.var 3) .nil))) .nil))))
      [some (.ref n), some (sysD S), some (.int (m : Int)), some (.tup (p.map fr)), none, none, none, none, none, none, none, none, none, none, none, none, none, none, none, none, none] h2 =
      .ok (.nx [some (.ref n), some (sysD S), some (.int (m : Int)), some (.tup (p.map fr)), some (dueD p S), some (tabF m p S), none, none, none, none, none, none, none, none, none, none, none, none, none, none, none]) h3 := by
    rw [ex, ev, evs, e4, R.bind_ok]
    simp only [ev, evs, List.getElem?_cons_zero, List.getElem?_cons_succ, R.bind_ok, e5, two_ok, if_true, R.toF_ok, asn, asns, R.calm_ok, List.set]
  have e6 := hw m 29 3 7 S p h3 sy ok op (by decide) szF07
  have e6 : Δ w [sysD S, .tup (p.map fr)] h3 = .ok (dueD p S) h3 := e6
  have e7 := hs m 29 3 7 S p h3 sy ok op (by decide) szF07
  have fl : D.flats [dueD p S, dueD p S, tabF m p S, tabF m p S] = true := flats_four (dueD_flat _ _) (tabF_flat _ _ _)
  have rq : ∀ rd, ∀ x ∈ [dueD p S, dueD p S, tabF m p S, tabF m p S], Rq rd x 40000 20 := fun rd x hx => by
    have a := due_rq rd ok op
    have b := tab_rq rd ok op
    rcases List.mem_cons.mp hx with rfl | hx
    · exact a
    rcases List.mem_cons.mp hx with rfl | hx
    · exact a
    rcases List.mem_cons.mp hx with rfl | hx
    · exact b
    · rw [List.mem_singleton.mp hx]; exact b
  have e8 : ev Δ gl (.lst (.cons (.call w (.cons (.var 1) (.cons (.var 3) .nil))) (.cons (.callk w .nil [1, 0] (.cons (.var 3) (.cons (.var 1) .nil))) (.cons (.call s (.cons (.var 1) (.cons (.var 3) .nil))) (.cons (.callk s .nil [1, 0] (.cons (.var 3) (.cons (.var 1) .nil))) .nil)))))
      [some (.ref n), some (sysD S), some (.int (m : Int)), some (.tup (p.map fr)), some (dueD p S), some (tabF m p S), none, none, none, none, none, none, none, none, none, none, none, none, none, none, none] h3 =
      .ok (.ref h3.length) (h3 ++ [.lst [dueD p S, dueD p S, tabF m p S, tabF m p S]]) := by
    simp only [ev, evs, List.getElem?_cons_zero, List.getElem?_cons_succ, R.bind_ok, List.map_cons, List.map_nil, List.getD, Option.getD_some, List.nil_append, e6, e7, four_ok, if_true]
    rfl
  have r1 := told_repr (h := h3 ++ [.lst [dueD p S, dueD p S, tabF m p S, tabF m p S]]) get_end fl rq (by simp)
  have u4 : Up n N0 h (h3 ++ [.lst [dueD p S, dueD p S, tabF m p S, tabF m p S]]) := u3.push7
  generalize h3.length = P at e8 r1
  generalize h3 ++ [C.lst [dueD p S, dueD p S, tabF m p S, tabF m p S]] = h4 at e8 r1 u4
  have e9 : ev Δ gl (.lst (.cons (.var 4) (.cons (.var 4) (.cons (.var 5) (.cons (.var 5) .nil))))) [some (.ref n), some (sysD S), some (.int (m : Int)), some (.tup (p.map fr)), some (dueD p S), some (tabF m p S), none, some (.ref P), none, none, none, none, none, none, none, none, none, none, none, none, none] h4 =
      .ok (.ref h4.length) (h4 ++ [.lst [dueD p S, dueD p S, tabF m p S, tabF m p S]]) := by
    simp only [ev, evs, List.getElem?_cons_zero, List.getElem?_cons_succ, R.bind_ok, four_ok, if_true]
    rfl
  have r2 := told_repr (h := h4 ++ [.lst [dueD p S, dueD p S, tabF m p S, tabF m p S]]) get_end fl rq (by simp)
  have u5 : Up n N0 h (h4 ++ [.lst [dueD p S, dueD p S, tabF m p S, tabF m p S]]) := u4.push7
  obtain ⟨h9, e10⟩ := tail7 (Δ := Δ) (gl := gl) hw hs hj hg hr ht hl dr op none (some (.ref P)) none none none none none none none none none none none none none u5.at_
  have s5 := ex_asg (i := 7) e8
  simp only [List.set] at s5
  have key : exs Δ gl (B07r y c o q w s j g r t l) [some (.ref n), none, none, none, none, none, none, none, none, none, none, none, none, none, none, none, none, none, none, none, none] h = .ok (.rt (.bl true)) h9 := by
    unfold B07r
    refine (exs_nx s1).trans ((exs_nx s2).trans ((exs_nx s3).trans ((exs_nx s4).trans ((exs_nx s5).trans ?_))))
    refine (exs_nx (ex_no (ev_same2 (ev_repr (d := .ref P) (h1 := h4) ?_ r1) (ev_repr e9 r2)))).trans e10
    simp only [ev, List.getElem?_cons_zero, List.getElem?_cons_succ]
  obtain ⟨hz, tt⟩ := flat_true (h := h) (h' := h9)
  refine ⟨hz, ?_⟩
  rw [run_rt (f := F07r y c o q w s j g r t l) (xs := [.ref n]) rfl key]
  exact tt
theorem lc_truesJ {el : D → Hh → R (Option D)} (hel : ∀ (t : Int) h, 0 ≤ t → t < 1000 → ∃ h', el (.int t) h = .ok (some (.bl true)) h') :
    ∀ (items : List Int) (acc : List Bool) (h : Hh), (∀ t ∈ items, 0 ≤ t ∧ t < 1000) → (∀ b ∈ acc, b = true) → acc.length + items.length < 1000 → ∃ (bs : List Bool) (h' : Hh), lcL [] el (items.map D.int) (acc.map D.bl) h = .ok (.ref h'.length) (h' ++ [.lst (bs.map D.bl)]) ∧ ∀ b ∈ bs, b = true
  | [], acc, h, _, ha, hl => ⟨acc, h, by
      have sl : acc.length ≤ sizeLine := Nat.le_trans (show acc.length ≤ 1000 by simp at hl; omega) (by decide)
      simp [lcL, gsOk_nil, sl, alloc], ha⟩
  | t :: items, acc, h, hi, ha, hl => by
    obtain ⟨t0, t1⟩ := hi t (by simp)
    obtain ⟨h1, e1⟩ := hel t h t0 t1
    obtain ⟨bs, h2, e2, hb⟩ := lc_truesJ hel items (acc ++ [true]) h1 (fun u hu => hi u (List.mem_cons_of_mem _ hu)) (fun b hb => by
      rcases List.mem_append.mp hb with hb | hb
      · exact ha b hb
      · exact List.mem_singleton.mp hb) (by simp at hl ⊢; omega)
    refine ⟨bs, h2, ?_, hb⟩
    have sl : (acc.map D.bl).length < sizeLine := Nat.lt_of_lt_of_le (show (acc.map D.bl).length < 1001 by simp at hl ⊢; omega) (by decide)
    rw [List.map_cons]
    unfold lcL
    rw [if_pos ⟨gsOk_nil _, sl⟩, e1]
    simp only [R.bind_ok]
    rw [← e2]
    simp
theorem blsOf_J : ∀ (l : List Bool), blsOf (l.map D.bl) = some l
  | [] => rfl
  | a :: l => by simp [blsOf, blsOf_J l]
theorem s_law07 {i j : Nat} (hr : S_rightJ (Δ i)) (hu : S_sack (Δ j)) : S_law (run Δ gl (F07 i j)) := by
  intro ns hl
  have ml : ((ns.map D.int).length : Int) = ns.length := by simp
  obtain ⟨c, hc, ec⟩ : ∃ c : Nat, c ≤ 4 ∧ evs Δ gl (.cons (.blt .max (.cons (.int 2) (.cons (.blt .min (.cons (.blt .len (.cons (.var 0) .nil)) (.cons (.int 4) .nil))) .nil))) .nil) [some (.fz (ns.map D.int)), none] [] = .ok [.int (c : Int)] [] := by
    by_cases h4 : (4 : Int) < ns.length
    · refine ⟨4, by decide, ?_⟩
      simp [evs, ev, bltD, h4]
    · by_cases h2 : (2 : Int) < ns.length
      · refine ⟨ns.length, by omega, ?_⟩
        have h2' : 2 < ns.length := by omega
        have h4' : ¬ 4 < ns.length := by omega
        simp [evs, ev, bltD, h4, h2, h2', h4']
      · refine ⟨2, by decide, ?_⟩
        have h2' : ¬ 2 < ns.length := by omega
        have h4' : ¬ 4 < ns.length := by omega
        simp [evs, ev, bltD, h4, h2, h2', h4']
  obtain ⟨bs, h', e1, hb⟩ := lc_truesJ (el := fun d h => ((asn Δ gl (.nm 1) d (wipeD [some (.fz (ns.map D.int)), none] [1]) h).bind fun ρ1 h => (evt Δ gl .no ρ1 h).bind fun b h => if b = true then (ev Δ gl (.call i (.cons (.call j (.cons (.var 0) (.cons (.var 1) .nil))) .nil)) ρ1 h).bind fun y h => .ok (some y) h else .ok none h).calm) (fun t h t0 t1 => by
      obtain ⟨xs, ux, e⟩ := hu ns t h hl t0 t1
      obtain ⟨h2, e2⟩ := hr h.length (h ++ [.lst xs]) ⟨xs, get_end, ux⟩
      exact ⟨h2, by simp [asn, wipeD, List.set, evt, ev, evs, e, e2, R.calm]⟩) ((List.range c).map fun k : Nat => (k : Int)) [] [] (fun t ht => by
      obtain ⟨k, hk, rfl⟩ := List.mem_map.mp ht
      have := List.mem_range.mp hk
      omega) (by simp) (by simp; omega)
  have eu : ((List.range c).map fun k : Nat => (k : Int)).map D.int = upFrom 0 c := by
    unfold upFrom
    rw [List.map_map]
    exact List.map_congr_left fun k _ => by simp
  rw [eu] at e1
  simp only [List.map_nil] at e1
  have al : bs.all id = true := by
    rw [List.all_eq_true]
    intro b hb'
    exact hb b hb'
  have key : exs Δ gl (B07 i j) [some (.fz (ns.map D.int)), none] [] = .ok (.rt (.bl true)) (h' ++ [.lst (bs.map D.bl)]) := by
    unfold B07
    refine exs_rt ?_
    have eA := (ev_lc (elt := .call i (.cons (.call j (.cons (.var 0) (.cons (.var 1) .nil))) .nil)) (t := .nm 1) (tt := .no) (own := [1]) (ρ := [some (.fz (ns.map D.int)), none]) (h := []) (p := upFrom 0 c) (gs := []) (h1 := []) (evi_rng1 (k := c) ec (small_nat (by omega)))).trans e1
    rw [ev, evs, eA]
    simp only [evs, R.bind_ok, bltD, listAt, get_end, blsOf_J, al]
  obtain ⟨h12, tt⟩ := flat_true (h := []) (h' := h' ++ [.lst (bs.map D.bl)])
  refine ⟨h12, ?_⟩
  simp only [run, F07, List.length_cons, List.length_nil, if_true, List.map_cons, List.map_nil, List.replicate, List.cons_append, List.nil_append]
  rw [key]
  exact tt
end
end HS

namespace K07
open PySem HS
noncomputable abbrev q (n k : Nat) : Fn := dels ds (fun k => gls.getD k .non) n k
theorem t0 (n : Nat) (h : 0 < n) : S_whole (q n 0) := by rw [q, call_at (d := d_is_whole) rfl h]; exact s_is_whole
theorem t2 (n : Nat) (h : 0 < n) : S_div (q n 2) := by rw [q, call_at (d := d_divisor_of) rfl h]; exact s_divisor_of
theorem t23 (n : Nat) (h : 0 < n) : S_sack (q n 23) := by rw [q, call_at (d := d_law_sack) rfl h]; exact s_law_sack
theorem t24 (n : Nat) (h : 0 < n) : S_pull (q n 24) := by rw [q, call_at (d := d_law_pull) rfl h]; exact s_law_pull
theorem t25 (n : Nat) (h : 0 < n) : S_with (q n 25) := by rw [q, call_at (d := d_law_f) rfl h]; exact s_law_f
theorem t1 (n : Nat) (h : 1 < n) : S_wholes2 (q n 1) := by rw [q, call_at (d := d_are_wholes) rfl h]; exact s_are_wholes (t0 1 (by decide))
theorem t1N (n : Nat) (h : 1 < n) : S_wholesN (q n 1) := by rw [q, call_at (d := d_are_wholes) rfl h]; exact s_are_wholesN (t0 1 (by decide))
theorem t3 (n : Nat) (h : 1 < n) : S_reduced (q n 3) := by rw [q, call_at (d := d_is_reduced) rfl h]; exact s_is_reduced (t2 1 (by decide))
theorem t5 (n : Nat) (h : 1 < n) : S_with (q n 5) := by rw [q, call_at (d := d_ratio_with) rfl h]; exact s_ratio_with (t2 1 (by decide))
theorem t26 (n : Nat) (h : 1 < n) : S_op (· + ·) (q n 26) := by rw [q, call_at (d := d_law_plus) rfl h]; exact s_law_add (t25 1 (by decide))
theorem t27 (n : Nat) (h : 1 < n) : S_op (· * ·) (q n 27) := by rw [q, call_at (d := d_law_times) rfl h]; exact s_law_mul (t25 1 (by decide))
theorem t34 (n : Nat) (h : 1 < n) : S_small (q n 34) := by rw [q, call_at (d := d_law_small) rfl h]; exact s_law_small (t25 1 (by decide)) (t24 1 (by decide))
theorem t4 (n : Nat) (h : 2 < n) : S_ratio (q n 4) := by rw [q, call_at (d := d_is_ratio) rfl h]; exact s_is_ratio (t1 2 (by decide)) (t3 2 (by decide))
theorem t6 (n : Nat) (h : 2 < n) : S_op (· + ·) (q n 6) := by rw [q, call_at (d := d_ratio_sum) rfl h]; exact s_ratio_sum (t5 2 (by decide))
theorem t7 (n : Nat) (h : 2 < n) : S_op (· * ·) (q n 7) := by rw [q, call_at (d := d_ratio_product) rfl h]; exact s_ratio_product (t5 2 (by decide))
theorem t28 (n : Nat) (h : 2 < n) : S_rz (q n 28) := by rw [q, call_at (d := d_law_raised) rfl h]; exact s_law_raised (t27 2 (by decide))
theorem t33 (n : Nat) (h : 2 < n) : S_formW (q n 33) := by rw [q, call_at (d := d_law_gathered) rfl h]; exact s_law_gathered (t26 2 (by decide))
theorem t35 (n : Nat) (h : 2 < n) : S_place7 (q n 35) := by rw [q, call_at (d := d_law_drawn_place) rfl h]; exact s_law_drawn_place (t34 2 (by decide))
theorem t8 (n : Nat) (h : 3 < n) : S_areJ (q n 8) := by rw [q, call_at (d := d_are_ratios) rfl h]; exact s_are_ratiosJ (t4 3 (by decide))
theorem t9 (n : Nat) (h : 3 < n) : S_termL (q n 9) := by rw [q, call_at (d := d_is_term) rfl h]; exact s_is_term (t1N 3 (by decide)) rfl (t4 3 (by decide)) rfl
theorem t15 (n : Nat) (h : 3 < n) : S_formW (q n 15) := by rw [q, call_at (d := d_form_with) rfl h]; exact s_form_with rfl (t6 3 (by decide))
theorem t16 (n : Nat) (h : 3 < n) : S_rz (q n 16) := by rw [q, call_at (d := d_raised_ratio) rfl h]; exact s_raised rfl (t7 3 (by decide))
theorem t29 (n : Nat) (h : 3 < n) : S_tw (q n 29) := by rw [q, call_at (d := d_law_term_worth) rfl h]; exact s_law_term_worth (t27 3 (by decide)) (t28 3 (by decide))
theorem t36 (n : Nat) (h : 3 < n) : S_form7 (q n 36) := by rw [q, call_at (d := d_law_drawn_form) rfl h]; exact s_law_drawn_form (t34 3 (by decide)) (t24 3 (by decide)) (t25 3 (by decide)) (t33 3 (by decide))
theorem t10 (n : Nat) (h : 4 < n) : S_formL (q n 10) := by rw [q, call_at (d := d_is_form) rfl h]; exact s_is_form (t9 4 (by decide))
theorem t12 (n : Nat) (h : 4 < n) : S_spotJ (q n 12) := by rw [q, call_at (d := d_is_spot) rfl h]; exact s_is_spot (t8 4 (by decide))
theorem t17 (n : Nat) (h : 4 < n) : S_wf (q n 17) := by rw [q, call_at (d := d_worth_of_form) rfl h]; exact s_worth_of_form rfl (t7 4 (by decide)) (t16 4 (by decide)) (t6 4 (by decide))
theorem t19 (n : Nat) (h : 4 < n) : S_grown (q n 19) := by rw [q, call_at (d := d_grown_form) rfl h]; exact s_grown_form (t7 4 (by decide)) (t15 4 (by decide))
theorem t30 (n : Nat) (h : 4 < n) : S_wf (q n 30) := by rw [q, call_at (d := d_law_worth) rfl h]; exact s_law_worth (t26 4 (by decide)) (t29 4 (by decide))
theorem t31 (n : Nat) (h : 4 < n) : S_lslope (q n 31) := by rw [q, call_at (d := d_law_slope) rfl h]; exact s_law_slope (t26 4 (by decide)) (t29 4 (by decide)) (t27 4 (by decide))
theorem t37 (n : Nat) (h : 4 < n) : S_sys7 (q n 37) := by rw [q, call_at (d := d_law_drawn_system) rfl h]; exact s_law_drawn_system (t24 4 (by decide)) (t36 4 (by decide))
theorem t11 (n : Nat) (h : 5 < n) : S_formedL (q n 11) := by rw [q, call_at (d := d_is_formed) rfl h]; exact s_is_formed rfl (t10 5 (by decide))
theorem t14 (n : Nat) (h : 5 < n) : S_cplace (q n 14) := by rw [q, call_at (d := d_check_place) rfl h]; exact s_check_place (t12 5 (by decide))
theorem t18 (n : Nat) (h : 5 < n) : S_due07 (q n 18) := by rw [q, call_at (d := d_worths_of) rfl h]; exact s_worths_of (t17 5 (by decide))
theorem t20 (n : Nat) (h : 5 < n) : S_tab (q n 20) := by rw [q, call_at (d := d_slopes_of) rfl h]; exact s_slopes_of (t17 5 (by decide)) (t19 5 (by decide))
theorem t32 (n : Nat) (h : 5 < n) : S_tab (q n 32) := by rw [q, call_at (d := d_law_slopes) rfl h]; exact s_law_slopes (t31 5 (by decide))
theorem t13 (n : Nat) (h : 6 < n) : S_csys (q n 13) := by rw [q, call_at (d := d_check_system) rfl h]; exact s_check_system (t11 6 (by decide))
theorem t21 (n : Nat) (h : 7 < n) : S_dueL (q n 21) := by rw [q, call_at (d := d_worth) rfl h]; exact s_worth07 (t13 7 (by decide)) (t14 7 (by decide)) (t18 7 (by decide))
theorem t22 (n : Nat) (h : 7 < n) : S_tabL (q n 22) := by rw [q, call_at (d := d_slopes) rfl h]; exact s_slopes07 (t13 7 (by decide)) (t14 7 (by decide)) (t20 7 (by decide))
theorem t38 (n : Nat) (h : 8 < n) : S_rightJ (q n 38) := by rw [q, call_at (d := d_law_right) rfl h]; exact s_law_right07 (t37 8 (by decide)) (t35 8 (by decide)) (t30 8 (by decide)) (t32 8 (by decide)) (t21 8 (by decide)) (t22 8 (by decide)) (t24 8 (by decide)) (t33 8 (by decide)) (t28 8 (by decide)) (t27 8 (by decide)) (t26 8 (by decide))
theorem t39 (n : Nat) (h : 9 < n) : S_law (q n 39) := by rw [q, call_at (d := d_law) rfl h]; exact s_law07 (t38 9 (by decide)) (t23 9 (by decide))
theorem plain : Plain := fun ns hl => t39 10 (by decide) ns hl
end K07

open PySem PySem.W PySem.Calls PyProof.Rows
set_option maxHeartbeats 0 in
theorem PySem.Challenge.cw_homesteps_k07_whole_worths_and_slopes_holds : PySem.Challenge.rw_homesteps_k07_whole_worths_and_slopes.Holds := by
  w_on; o_law
  refine HandSHeadRun.head_imp (r := OpenLaw.row PySem.Challenge.rw_homesteps_k07_whole_worths_and_slopes) (q := view (OpenLaw.row PySem.Challenge.rw_homesteps_k07_whole_worths_and_slopes).prog [0, 54]) (H := K07.hk) (ob := K07.ob) (M := 6000) (loose := K07.nm) (d := HandSHeadRun.topDef (OpenLaw.row PySem.Challenge.rw_homesteps_k07_whole_worths_and_slopes).prog 54) (kwd := []) K07.ob_eq
    K07.run (by kernel_rfl) (by kernel_rfl) (by kernel_rfl) (by rfl) (by first | assumption | decide +kernel) (by decide +kernel) ⟨rfl, rfl, rfl, rfl, rfl, by decide +kernel⟩ ?hw ?hc
  case hw => w_witness2
  case hc =>
    refine HS.walk_end (l := PySem.Challenge.rw_homesteps_k07_whole_worths_and_slopes) (n := 63) (x := "script") rfl (by decide) (by kernel_rfl) ?F
    intro w mg h Y G
    have e : (HandSHeadRun.topDef (OpenLaw.row PySem.Challenge.rw_homesteps_k07_whole_worths_and_slopes).prog 54).name = ("law" : PySem.Str) := by kernel_rfl
    rw [e]
    exact K07.fin K07.plain Y G
