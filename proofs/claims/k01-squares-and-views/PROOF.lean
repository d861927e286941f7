import PyProof.Rows.All
import Wide.All
import OpenK.AllK
import Wide.FinOn
import HandS.ForMost
import HandS.Lambda
import KE.KDictKeyed
import HandS.TupLen
import HandS.Style
import HandS.Walk
import HandS.Deep
import HandS.IsInst
import HandS.FltList
import HandS.Text
import HandS.RaiseMore
import HandS.TupLe
import HandS.Steps
import HandS.Flt
import HandS.Exc
import HandS.ExcOwn
import HandS.WordsExc
import KE.SortData
import HandS.TupSets
import KE.DataMinMax
import HandS.SortKw
import HandS.SetFor
import HandS.Strs
import HandS.Conv
import HandS.EndTab
import HandS.ExcIs
import KE.KDflt
import HandS.ExcBuiltin
import HandS.Ends
import PySem.Challenge.RW_tilepyramid_k01_squares_and_views
set_option Elab.async false
set_option linter.all false
set_option maxRecDepth 100000
set_option maxHeartbeats 2000000
/-! TPz: dicts whose keys are tuples (nested), wherever the keys' own tuples stand. -/
namespace TP
open PySem PySem.Spec PyProof.Rows L2
/-- entries: the key, where its tuple stands, the value -/
abbrev Ents := List (NestedKey × Addr × V)
abbrev EntR : Ents → List (NestedKey × Addr × Value) → Prop := Paired fun p q => p.1 = q.1 ∧ p.2.1 = q.2.1 ∧ RelV p.2.2 q.2.2
def DXp (P : Program) (w : World) (a : Addr) (es : Ents) (h : Heap) : Prop :=
  es.length ≤ sizeLine ∧ (a == sysModules) = false ∧ ∃ xs, EntR es xs ∧ ∃ o ds ep, h.get? a = some o ∧ o.ExactDict ∧ o.data = .dict ds ep ∧ ds.toList = xs.map (entryOfKey (nestedKind P w)) ∧ (xs.map (·.1)).Nodup
def DX (P : Program) (w : World) (a : Addr) (es : Ents) : HO := .ext (DXp P w a es)
theorem dx_ok {P : Program} {w : World} {H : Hp} {h : Heap} {a : Addr} {es : Ents} (x : DXp P w a es h) : ObjOk P w H h a (DX P w a es) := by
  refine ⟨x, ?_, fun h1 h2 y k => ?_⟩
  · obtain ⟨_, _, _, _, o, _, _, e, _⟩ := x
    exact ⟨o, e⟩
  · obtain ⟨z, hd, xs, r, o, ds, ep, e, q⟩ := y
    exact ⟨z, hd, xs, r, o, ds, ep, k o e, q⟩
theorem dx_rd {P : Program} {w : World} {H : Hp} {h : Heap} {a : Addr} {es : Ents} (ok : HOk P w H h) (e : Rd H a (DX P w a es)) : DXp P w a es h := by
  have z := e.ok ok
  exact z.1
theorem heap_at (o : Obj) (hf : o.isFreed = false) : ∀ p : Nat, ∃ h : Heap, h.objs.size = p + 1 ∧ h.get? p = some o := by
  have base : ∃ h : Heap, h.objs.size = 0 := by
    exact ⟨{ objs := #[] }, rfl⟩
  intro p
  have fill : ∃ h : Heap, h.objs.size = p := by
    induction p with
    | zero => exact base
    | succ p ih =>
      obtain ⟨h, e⟩ := ih
      exact ⟨h.push o, by rw [Heap.size_push, e]⟩
  obtain ⟨h, e⟩ := fill
  exact ⟨h.push o, by rw [Heap.size_push, e], by rw [← e]; exact Heap.get?_push_size _ hf⟩
theorem dx_ne_code {P : Program} {w : World} {a : Addr} {es : Ents} (q : Str) : DX P w a es ≠ LamX.CodeO a q := fun z => by
  have e := HO.ext.inj z
  obtain ⟨h, _, hg⟩ := heap_at { cls := .none, data := .fields #[.none, .str q 0] } rfl a
  have y : DXp P w a es h := by
    rw [e]
    exact ⟨_, _, 0, hg, rfl, rfl⟩
  obtain ⟨_, _, _, _, o, ds, ep, e1, _, e2, _⟩ := y
  rw [hg] at e1; cases e1; cases e2
/-- a key where it stands -/
structure KeyAt (K : PySem.W.Frag) (H : Hp) (b : Addr) (k : NestedKey) : Prop where
  dp : Dp K H (.ref b) k.data
  dep : k.depth ≤ 8
def KeysAt (K : PySem.W.Frag) (H : Hp) (es : Ents) : Prop := ∀ e, e ∈ es → KeyAt K H e.2.1 e.1
section
variable {X : Cx} {pins : List (Addr × Obj)} {σ : L2.St} {H : Hp} {s : Shared}
mutual
theorem nested_of (I : Inv X pins σ H s) : ∀ (k : NestedKey) (v : V) (u : Value), Dp X.K H v k.data → RelV v u → NestedIs s.heap k u
  | .none, _, _, h, r => by
    cases h; cases r; exact .none
  | .num i, _, _, h, r => by
    cases h; obtain ⟨t, rfl⟩ := r; exact .int i t
  | .text x, _, _, h, r => by
    cases h; obtain ⟨t, rfl⟩ := r; exact .text x t
  | .tup ks, _, _, h, r => by
    have h' : Dp X.K H _ (.tuple (NestedKey.datas ks)) := h
    cases h' with
    | tup hs ha =>
      cases r
      obtain ⟨its, rv, ⟨o, e, c, n, d⟩, _⟩ := I.tuple hs
      exact .tup e c d (by simpa using nesteds_of I ks _ its ha rv)
theorem nesteds_of (I : Inv X pins σ H s) : ∀ (ks : List NestedKey) (vs : List V) (us : List Value), DpAll X.K H vs (NestedKey.datas ks) → Vals vs us → NestedAll s.heap ks us
  | [], _, _, h, r => by
    have h' : DpAll X.K H _ [] := h
    cases h'; cases r; exact .nil
  | k :: ks, _, _, h, r => by
    have h' : DpAll X.K H _ (k.data :: NestedKey.datas ks) := h
    cases h' with
    | cons h1 h2 =>
      cases r with
      | cons r1 r2 => exact .cons (nested_of I k _ _ h1 r1) (nesteds_of I ks _ _ h2 r2)
end
theorem key_is (I : Inv X pins σ H s) {b : Addr} {k : NestedKey} (x : KeyAt X.K H b k) : (nestedKind X.prog X.w).is s.heap k b := ⟨nested_of I k _ _ x.dp rfl, x.dep⟩
theorem entR_mem : ∀ {es : Ents} {xs : List (NestedKey × Addr × Value)}, EntR es xs → ∀ x, x ∈ xs → ∃ e, e ∈ es ∧ e.1 = x.1 ∧ e.2.1 = x.2.1
  | _, _, .nil, x, h => by cases h
  | _, _, .cons r t, x, h => by
    rcases List.mem_cons.mp h with rfl | h
    · exact ⟨_, List.mem_cons_self, r.1, r.2.1⟩
    · obtain ⟨e, he, q⟩ := entR_mem t x h
      exact ⟨e, List.mem_cons_of_mem _ he, q⟩
/-- the dict, as the library tells it -/
theorem dx_of (I : Inv X pins σ H s) {a : Addr} {es : Ents} (e : Rd H a (DX X.prog X.w a es)) (ko : KeysAt X.K H es) : es.length ≤ sizeLine ∧ (a == sysModules) = false ∧ ∃ xs, EntR es xs ∧ s.heap.DictOfH (nestedKind X.prog X.w) a xs := by
  obtain ⟨z, hd, xs, r, o, ds, ep, e1, e2, e3, e4, e5⟩ := dx_rd I.hok e
  refine ⟨z, hd, xs, r, o, ds, ep, e1, e2, e3, e4, fun x hx => ?_, e5⟩
  obtain ⟨en, he, q1, q2⟩ := entR_mem r x hx
  have := key_is I (ko en he)
  rw [q1, q2] at this
  exact this
end
/-- the value at a key; a store; a removal -/
def valX (es : Ents) (k : NestedKey) : Option V := (es.find? fun e => decide (e.1 = k)).map (·.2.2)
def putX (es : Ents) (k : NestedKey) (b : Addr) (v : V) : Ents := if (valX es k).isSome then es.map (fun e => if e.1 = k then (e.1, e.2.1, v) else e) else es ++ [(k, b, v)]
def dropX (es : Ents) (k : NestedKey) : Ents := es.filter fun e => decide (e.1 ≠ k)
section
variable {es : Ents} {xs : List (NestedKey × Addr × Value)}
theorem EntR.val (r : EntR es xs) (k : NestedKey) : RelO (valX es k) ((atKey xs k).map (·.2)) := by
  induction r with
  | nil => exact True.intro
  | @cons p q ps qs h t ih =>
    by_cases e : p.1 = k
    · have e' : q.1 = k := by rw [← h.1]; exact e
      simp only [valX, atKey, List.find?_cons, e, e', decide_true]
      exact h.2.2
    · have e' : ¬ q.1 = k := by rw [← h.1]; exact e
      simp only [valX, atKey, List.find?_cons, e, e', decide_false]
      exact ih
theorem entR_append : ∀ {es es' : Ents} {xs xs' : List (NestedKey × Addr × Value)}, EntR es xs → EntR es' xs' → EntR (es ++ es') (xs ++ xs')
  | [], _, _, _, .nil, s => s
  | _ :: _, _, _, _, .cons r t, s => .cons r (entR_append t s)
theorem entR_map {f : NestedKey × Addr × V → NestedKey × Addr × V} {g : NestedKey × Addr × Value → NestedKey × Addr × Value} (h : ∀ p q, (p.1 = q.1 ∧ p.2.1 = q.2.1 ∧ RelV p.2.2 q.2.2) → ((f p).1 = (g q).1 ∧ (f p).2.1 = (g q).2.1 ∧ RelV (f p).2.2 (g q).2.2)) : ∀ {es : Ents} {xs : List (NestedKey × Addr × Value)}, EntR es xs → EntR (es.map f) (xs.map g)
  | [], _, .nil => .nil
  | _ :: _, _, .cons r t => .cons (h _ _ r) (entR_map h t)
theorem EntR.put (r : EntR es xs) (k : NestedKey) (b : Addr) {y : V} {u : Value} (ry : RelV y u) : EntR (putX es k b y) (storedH xs k b u) := by
  have e : (valX es k).isSome = (atKey xs k).isSome := by
    have q := (r.val k).isSome_eq
    rw [q, Option.isSome_map]
  unfold putX storedH
  rw [e]
  split
  · refine entR_map (fun p q h => ?_) r
    unfold putAt
    by_cases z : p.1 = k
    · rw [if_pos z, if_pos (show q.1 = k by rw [← h.1]; exact z)]
      exact ⟨h.1, h.2.1, ry⟩
    · rw [if_neg z, if_neg (show ¬ q.1 = k by rw [← h.1]; exact z)]
      exact h
  · exact entR_append r (.cons ⟨rfl, rfl, ry⟩ .nil)
theorem EntR.drop (r : EntR es xs) (k : NestedKey) : EntR (dropX es k) (withoutH xs k) := by
  induction r with
  | nil => exact .nil
  | @cons p q ps qs h t ih =>
    by_cases z : p.1 = k
    · have z' : q.1 = k := by rw [← h.1]; exact z
      have e1 : dropX (p :: ps) k = dropX ps k := by simp [dropX, z]
      have e2 : withoutH (q :: qs) k = withoutH qs k := by simp [withoutH, z']
      rw [e1, e2]; exact ih
    · have z' : ¬ q.1 = k := by rw [← h.1]; exact z
      have e1 : dropX (p :: ps) k = p :: dropX ps k := by simp [dropX, z]
      have e2 : withoutH (q :: qs) k = q :: withoutH qs k := by simp [withoutH, z']
      rw [e1, e2]; exact .cons h ih
theorem putX_len (es : Ents) (k : NestedKey) (b : Addr) (v : V) : (putX es k b v).length ≤ es.length + 1 := by
  unfold putX
  split
  · rw [List.length_map]; exact Nat.le_succ _
  · rw [List.length_append]; exact Nat.le_refl _
theorem dropX_len (es : Ents) (k : NestedKey) : (dropX es k).length ≤ es.length := List.length_filter_le _ _
theorem keysAt_put {K : PySem.W.Frag} {H : Hp} {k : NestedKey} {b : Addr} {v : V} (h : KeysAt K H es) (hk : KeyAt K H b k) : KeysAt K H (putX es k b v) := fun e he => by
  unfold putX at he
  split at he
  · obtain ⟨e0, h0, q⟩ := List.mem_map.mp he
    have := h e0 h0
    subst q
    split
    · exact this
    · exact this
  · rcases List.mem_append.mp he with z | z
    · exact h e z
    · rw [List.mem_singleton.mp z]; exact hk
theorem keysAt_drop {K : PySem.W.Frag} {H : Hp} {k : NestedKey} (h : KeysAt K H es) : KeysAt K H (dropX es k) := fun e he => h e (List.mem_filter.mp he).1
theorem EntR.length (r : EntR es xs) : es.length = xs.length := Paired.length r
end
section
variable {X : Cx}
theorem nested_room (hu : X.A.units + 64 < cLine) : (nestedKind X.prog X.w).room X.A.in1 := by
  show X.A.in1.units + 8 < cLine
  have : X.A.in1.units ≤ X.A.units + 1 := Nat.le_refl _
  omega
/-- k in d -/
def rDXin (K : PySem.W.Frag) (P : Program) (w : World) : R2 := fun x y H Q => ∃ b a k es, x = .ref b ∧ y = .ref a ∧ KeyAt K H b k ∧ Rd H a (DX P w a es) ∧ KeysAt K H es ∧ Q (.bl (valX es k).isSome) H
def rDXnotIn (K : PySem.W.Frag) (P : Program) (w : World) : R2 := fun x y H Q => ∃ b a k es, x = .ref b ∧ y = .ref a ∧ KeyAt K H b k ∧ Rd H a (DX P w a es) ∧ KeysAt K H es ∧ Q (.bl (!(valX es k).isSome)) H
theorem op_dxin (hu : X.A.units + 64 < cLine) : OpR X (compareOp .In) (rDXin X.K X.prog X.w) := by
  intro pins s σ H x y v u Q I rx ry h
  obtain ⟨b, a, k, es, rfl, rfl, hk, hd, ko, q⟩ := h
  cases rx; cases ry
  obtain ⟨z, hs, xs, r, dd⟩ := dx_of I hd ko
  refine wpAny_in_heap (nested_room hu) (key_is I hk) hs dd ?_
  have e := (r.val k).isSome_eq
  rw [Option.isSome_map] at e
  rw [← e]
  exact ⟨.bl _, H, I.tok _, rfl, q⟩
theorem op_dxnotIn (hu : X.A.units + 64 < cLine) : OpR X (compareOp .NotIn) (rDXnotIn X.K X.prog X.w) := by
  intro pins s σ H x y v u Q I rx ry h
  obtain ⟨b, a, k, es, rfl, rfl, hk, hd, ko, q⟩ := h
  cases rx; cases ry
  obtain ⟨z, hs, xs, r, dd⟩ := dx_of I hd ko
  refine wpAny_notIn_heap (nested_room hu) (key_is I hk) hs dd ?_
  have e := (r.val k).isSome_eq
  rw [Option.isSome_map] at e
  rw [← e]
  exact ⟨.bl _, H, I.tok _, rfl, q⟩
/-- d[k] -/
def rDXix (K : PySem.W.Frag) (P : Program) (w : World) : R2 := fun x y H Q => ∃ a b k es v, x = .ref a ∧ y = .ref b ∧ KeyAt K H b k ∧ Rd H a (DX P w a es) ∧ KeysAt K H es ∧ valX es k = some v ∧ Q v H
theorem dx_getItem {pins : List (Addr × Obj)} {s : Shared} {σ : L2.St} {H : Hp} {a b : Addr} {k : NestedKey} {es : Ents} {v : V} {E : Value → Shared → Prop} {Q : Value → Shared → Prop} (hu : X.A.units + 64 < cLine) (I : Inv X pins σ H s) (hk : KeyAt X.K H b k)
    (hd : Rd H a (DX X.prog X.w a es)) (ko : KeysAt X.K H es) (hv : valX es k = some v) (q : ∀ u s', Inv X pins σ H s' → RelV v u → Q u s') : wpAny (model X.prog X.w) X.A (getItem (.ref a) (.ref b)) Q E s := by
  obtain ⟨z, hs, xs, r, dd⟩ := dx_of I hd ko
  have rr := r.val k
  rw [hv] at rr
  obtain ⟨u, hu1, ru⟩ := RelO.some_of rr
  obtain ⟨p, hp, hp2⟩ := Option.map_eq_some_iff.mp hu1
  refine wpAny_getItem_heap (nested_room hu) (key_is I hk) dd hp ?_
  rw [hp2]
  exact q u _ (I.tok _) ru
/-- d[k] = v -/
def rDXset (K : PySem.W.Frag) (P : Program) (w : World) : V → V → V → Hp → (Hp → Prop) → Prop := fun o i v H Q => ∃ a b k es, o = .ref a ∧ i = .ref b ∧ KeyAt K H b k ∧ H a = some (DX P w a es) ∧ KeysAt K H es ∧ es.length < sizeLine ∧ Q (upd H a (DX P w a (putX es k b v)))
theorem dx_write {pins : List (Addr × Obj)} {s : Shared} {σ : L2.St} {H : Hp} {a : Addr} {es es' : Ents} {h' : Heap} {tk : Nat} {xs' : List (NestedKey × Addr × Value)} (I : Inv X pins σ H s) (hd : H a = some (DX X.prog X.w a es)) (hm : h'.DictOfH (nestedKind X.prog X.w) a xs') (hs : Heap.SameBut a s.heap h')
    (r : EntR es' xs') (hl : es'.length ≤ sizeLine) (ha : (a == sysModules) = false) : Inv X pins σ (upd H a (DX X.prog X.w a es')) { s with heap := h', toks := tk } := by
  obtain ⟨o, ds, ep, e1, e2, e3, e4, _, e5⟩ := hm
  exact d_write I (by rw [hd]; exact True.intro) hs ⟨o, e1⟩ (dx_ok ⟨hl, ha, xs', r, o, ds, ep, e1, e2, e3, e4, e5⟩)
theorem set_dx (hu : X.A.units + 64 < cLine) : PSet X (rDXset X.K X.prog X.w) := by
  intro pins s σ H o i v ov iv u Q I ro ri rv h
  obtain ⟨a, b, k, es, rfl, rfl, hk, hd, ko, hl, q⟩ := h
  cases ro; cases ri
  obtain ⟨z, hs, xs, r, dd⟩ := dx_of I (.inl hd) ko
  refine wpAny_setItem_heap (hsz := by rw [← r.length]; exact z) (nested_room hu) (key_is I hk) dd fun h' hm' hs' => ?_
  exact ⟨_, dx_write I hd hm' hs' (r.put k b rv) (by have := putX_len es k b v; omega) hs, q⟩
/-- d.get(k, x) -/
def rDXget (K : PySem.W.Frag) (P : Program) (w : World) : V → List V → Hp → VK → Prop := fun o vs H Q => ∃ a b k es d, o = .ref a ∧ vs = [.ref b, d] ∧ KeyAt K H b k ∧ Rd H a (DX P w a es) ∧ KeysAt K H es ∧ Q ((valX es k).getD d) H
theorem mt_dxget (hu : X.A.units + 64 < cLine) : MtR X "dict.get" (rDXget X.K X.prog X.w) := by
  intro pins s σ H x xs0 v us Q I rx rxs h
  obtain ⟨a, b, k, es, d, rfl, rfl, hk, hd, ko, q⟩ := h
  cases rx
  obtain ⟨u1, u2, rfl, r1, r2⟩ := Vals.two rxs
  cases r1
  obtain ⟨z, hs, xs, r, dd⟩ := dx_of I hd ko
  refine call_meetsIn PySem.F.slot_dict_get dd.typeIs PySem.F.entry_dict_get (PySem.F.args_dict_get_3 _ _ _) (meetsH_dict_get_default (nestedKind X.prog X.w) a b hs u2) ⟨nested_room hu, k, xs, key_is I hk, dd, ?_⟩
  exact ⟨_, H, I.tok _, (r.val k).getD r2, q⟩
/-- d.pop(k), k there -/
def rDXpop (K : PySem.W.Frag) (P : Program) (w : World) : V → List V → Hp → VK → Prop := fun o vs H Q => ∃ a b k es v, o = .ref a ∧ vs = [.ref b] ∧ KeyAt K H b k ∧ H a = some (DX P w a es) ∧ KeysAt K H es ∧ valX es k = some v ∧ Q v (upd H a (DX P w a (dropX es k)))
theorem mt_dxpop (hu : X.A.units + 64 < cLine) : MtR X "dict.pop" (rDXpop X.K X.prog X.w) := by
  intro pins s σ H x xs0 v0 us Q I rx rxs h
  obtain ⟨a, b, k, es, v, rfl, rfl, hk, hd, ko, hv, q⟩ := h
  cases rx
  obtain ⟨u1, rfl, r1⟩ := Vals.one rxs
  cases r1
  obtain ⟨z, hs, xs, r, dd⟩ := dx_of I (.inl hd) ko
  have rr := r.val k
  rw [hv] at rr
  obtain ⟨u, hu1, ru⟩ := RelO.some_of rr
  obtain ⟨p, hp, hp2⟩ := Option.map_eq_some_iff.mp hu1
  refine call_pop_heap (hsz := by rw [← r.length]; exact z) (.inl rfl) (PySem.F.args_dict_pop_2 _ _) (nested_room hu) (key_is I hk) hs dd hp fun h' hm' hs' => ?_
  rw [hp2]
  exact ⟨v, _, dx_write I hd hm' hs' (r.drop k) (Nat.le_trans (dropX_len es k) z) hs, ru, q⟩
/-- len(d) -/
def rDXlen (K : PySem.W.Frag) (P : Program) (w : World) : List V → Hp → VK → Prop := fun vs H Q => ∃ a es, vs = [.ref a] ∧ Rd H a (DX P w a es) ∧ KeysAt K H es ∧ Q (.int es.length) H
theorem call_dxlen : CallR X (.builtin "len") (rDXlen X.K X.prog X.w) := by
  intro pins s σ H vs us Q I rxs h
  obtain ⟨a, es, rfl, hd, ko, q⟩ := h
  obtain ⟨u1, rfl, r1⟩ := Vals.one rxs
  cases r1
  obtain ⟨z, hs, xs, r, dd⟩ := dx_of I hd ko
  refine call_len_dictH hs dd (by rw [← r.length]; rw [sizeLine_eq] at z; omega) ?_
  rw [← r.length]
  exact ⟨.int es.length, H, I.tok _, ⟨_, rfl⟩, q⟩
end
section
variable {X : Cx} {pos : Pos}
/-- {} -/
def tDXnew (P : Program) (w : World) : TE := fun _ H Q => ∀ p, H p = none → Q (.ref p) (upd H p (DX P w p []))
theorem dx_empty {P : Program} {w : World} (h : Heap) (hb : sysModules < h.objs.size) : DXp P w h.objs.size [] (h.push { cls := .type "dict", data := .dict #[] }) :=
  ⟨Nat.zero_le _, beq_eq_false_iff_ne.mpr (Ne.symm (Nat.ne_of_lt hb)), [], .nil, _, #[], 0, Heap.get?_push_size _ rfl, ⟨rfl, rfl, rfl⟩, rfl, rfl, List.nodup_nil⟩
theorem pe_dxnew : PE X (.Dict [] [] pos) (tDXnew X.prog X.w) := ⟨fun pins s σ H Q I h =>
  wpAny_Dict_empty ⟨.ref s.heap.objs.size, _, I.laid (a := s.heap.objs.size) (o := DX X.prog X.w s.heap.objs.size []) (t' := s.toks) (fun _ _ q => Heap.get?_push_of_some _ q) (Nat.le_refl _) (dx_ok (dx_empty s.heap I.big)), rfl, h _ (I.hok.fresh (Nat.le_refl _))⟩⟩
/-- a store of many -/
def putAllX (es : Ents) (ps : List (NestedKey × Addr × V)) : Ents := ps.foldl (fun acc p => putX acc p.1 p.2.1 p.2.2) es
theorem entR_all : ∀ {ps : List (NestedKey × Addr × V)} {qs : List (NestedKey × Addr × Value)} {es : Ents} {xs : List (NestedKey × Addr × Value)}, EntR ps qs → EntR es xs → EntR (putAllX es ps) (storedAllH xs qs)
  | [], _, _, _, .nil, h => h
  | p :: ps, q :: qs, es, xs, .cons r t, h => by
    show EntR (putAllX (putX es p.1 p.2.1 p.2.2) ps) (storedAllH (storedH xs q.1 q.2.1 q.2.2) qs)
    refine entR_all t ?_
    rw [← r.1, ← r.2.1]
    exact h.put p.1 p.2.1 r.2.2
theorem putAllX_len : ∀ (ps : List (NestedKey × Addr × V)) (es : Ents), (putAllX es ps).length ≤ es.length + ps.length
  | [], es => Nat.le_refl _
  | p :: ps, es => by
    have h1 := putAllX_len ps (putX es p.1 p.2.1 p.2.2)
    have h2 := putX_len es p.1 p.2.1 p.2.2
    show (putAllX (putX es p.1 p.2.1 p.2.2) ps).length ≤ es.length + (ps.length + 1)
    omega
theorem keysAt_all {K : PySem.W.Frag} {H : Hp} : ∀ {ps : List (NestedKey × Addr × V)} {es : Ents}, KeysAt K H es → KeysAt K H ps → KeysAt K H (putAllX es ps)
  | [], _, h, _ => h
  | p :: ps, es, h, k => keysAt_all (ps := ps) (es := putX es p.1 p.2.1 p.2.2) (keysAt_put h (k p List.mem_cons_self)) fun e he => k e (List.mem_cons_of_mem _ he)
/-- d.update([(k, v), ..]) -/
def rDXupd (K : PySem.W.Frag) (P : Program) (w : World) : V → List V → Hp → VK → Prop := fun o vs H Q => ∃ (d l : Addr) (es : Ents) (ps : List (Addr × NestedKey × Addr × V)), o = .ref d ∧ vs = [.ref l] ∧ H d = some (DX P w d es) ∧ KeysAt K H es ∧ SqL K H l (ps.map fun p => V.ref p.1) ∧
  (∀ p ∈ ps, SqT K H p.1 [.ref p.2.2.1, p.2.2.2]) ∧ KeysAt K H (ps.map (·.2)) ∧ es.length + ps.length ≤ sizeLine ∧ Q .non (upd H d (DX P w d (putAllX es (ps.map (·.2)))))
end
end TP
set_option linter.all false
set_option maxRecDepth 100000
set_option maxHeartbeats 2000000
/-! TPa: what a slot holds (R), how it lies in the heap (RepR, RepE), steps of the heap (Stp). -/
namespace TP
open PySem PySem.Spec PyProof.Rows L2
/-- what a slot or an expression holds: pure data, or a mutable thing that nobody else holds -/
inductive R where
  | d (x : PyData)
  | ol (xs : List PyData)
  | on (rs : List R)
  | tn (rs : List R)
  | dt (kvs : List (NestedKey × PyData))
  | dk (n : Nat) (rs : List R)
  | ob (n : Nat) (rs : List R)
  | junk
/-- the program's facts: the written part, classes by number, names of fields and written keys by number; the slots that are not stored to, their values -/
structure Ctx where
  K : PySem.W.Frag
  cls : Nat → Addr
  sch : Nat → List Str
  pi : List Nat
  pv : Nat → V
  prog : Program
  wo : World
/-- the tables of code objects (of the defs that make lambdas), and the lambdas' names -/
class TabsOf where
  T : List (Addr × Str)
abbrev TabsH [TabsOf] (H : Hp) : Prop := LamX.Tabs TabsOf.T H
def KD (K : PySem.W.Frag) (I : Hp) (es : Ents) (kvs : List (NestedKey × PyData)) : Prop := Paired (fun p q => p.1 = q.1 ∧ Dp K I p.2.2 q.2) es kvs ∧ KeysAt K I es
mutual
inductive RepR (c : Ctx) (I H : Hp) : V → R → List Addr → Prop
  | d {v : V} {x : PyData} : Dp c.K I v x → RepR c I H v (.d x) []
  | ol {p : Addr} {vs : List V} {xs : List PyData} : H p = some (.lst vs) → I p = none → DpAll c.K I vs xs → RepR c I H (.ref p) (.ol xs) [p]
  | on {p : Addr} {vs : List V} {rs : List R} {fp : List Addr} : H p = some (.lst vs) → I p = none → RepRs c I H vs rs fp → RepR c I H (.ref p) (.on rs) (p :: fp)
  | tn {p : Addr} {vs : List V} {rs : List R} {fp : List Addr} : H p = some (.tup vs) → RepRs c I H vs rs fp → RepR c I H (.ref p) (.tn rs) fp
  | dt {p : Addr} {es : Ents} {kvs : List (NestedKey × PyData)} : H p = some (DX c.prog c.wo p es) → I p = none → KD c.K I es kvs → RepR c I H (.ref p) (.dt kvs) [p]
  | dk {p : Addr} {es : List (Key × V)} {n : Nat} {rs : List R} {fp : List Addr} : H p = some (.dK es) → I p = none → es.map (·.1) = (c.sch n).map Sum.inr → RepRs c I H (es.map (·.2)) rs fp →
      RepR c I H (.ref p) (.dk n rs) (p :: fp)
  | ob {p dx : Addr} {es : List (Str × V)} {n : Nat} {rs : List R} {fp : List Addr} : H p = some (.ins (c.cls n) dx es) → I p = none → es.map (·.1) = (c.sch n).take rs.length → RepRs c I H (es.map (·.2)) rs fp →
      RepR c I H (.ref p) (.ob n rs) (p :: fp)
  | junk {v : V} : RepR c I H v .junk []
inductive RepRs (c : Ctx) (I H : Hp) : List V → List R → List Addr → Prop
  | nil : RepRs c I H [] [] []
  | cons {v : V} {r : R} {gp : List Addr} {vs : List V} {rs : List R} {fp : List Addr} : RepR c I H v r gp → RepRs c I H vs rs fp → RepRs c I H (v :: vs) (r :: rs) (gp ++ fp)
end
/-- the slots -/
inductive RepE (c : Ctx) (I H : Hp) : L2.St → List R → List Addr → Prop
  | nil : RepE c I H [] [] []
  | unset {o : Option V} {σ : L2.St} {ρ : List R} {fp : List Addr} : RepE c I H σ ρ fp → RepE c I H (o :: σ) (.junk :: ρ) fp
  | cons {v : V} {r : R} {gp : List Addr} {σ : L2.St} {ρ : List R} {fp : List Addr} : RepR c I H v r gp → RepE c I H σ ρ fp → RepE c I H (some v :: σ) (r :: ρ) (gp ++ fp)
/-! ### what stays: all objects, but that tables of code objects may grow -/
structure Same (H H' : Hp) : Prop where
  o : ∀ b o, H b = some o → (∀ ps, o ≠ .tbl ps) → H' b = some o
  t : ∀ b ps, H b = some (.tbl ps) → ∃ qs, H' b = some (.tbl qs)
theorem Same.refl (H : Hp) : Same H H := ⟨fun _ _ h _ => h, fun _ ps h => ⟨ps, h⟩⟩
theorem Same.trans {H H1 H2 : Hp} (a : Same H H1) (b : Same H1 H2) : Same H H2 := ⟨fun c o h n => b.o c o (a.o c o h n) n, fun c ps h => by
  obtain ⟨qs, h1⟩ := a.t c ps h
  exact b.t c qs h1⟩
theorem Same.of {H H' : Hp} (e : L2.Same H H') : Same H H' := ⟨fun b o h _ => e b o h, fun b ps h => ⟨ps, e b _ h⟩⟩
theorem Same.free {H H' : Hp} (e : Same H H') {l : Addr} (h : H' l = none) : H l = none := by
  cases q : H l with
  | none => rfl
  | some o =>
    by_cases z : ∃ ps, o = .tbl ps
    · obtain ⟨ps, rfl⟩ := z
      obtain ⟨qs, h1⟩ := e.t l ps q
      rw [h] at h1; cases h1
    · have := e.o l o q (fun ps y => z ⟨ps, y⟩)
      rw [h] at this; cases this
theorem Same.seq {K : PySem.W.Frag} {H H' : Hp} {a : Addr} {xs : List V} (e : Same H H') (h : SqL K H a xs) : SqL K H' a xs := by
  rcases h with (h | ⟨o, h⟩) | h
  · exact .inl (.inl (e.o _ _ h (fun _ z => nomatch z)))
  · exact .inl (.inr ⟨o, e.o _ _ h (fun _ z => nomatch z)⟩)
  · exact .inr h
/-! ### data stay where the heap grows -/
theorem sm_l {K : PySem.W.Frag} {H H' : Hp} {a : Addr} {xs : List V} (e : Same H H') (h : SqL K H a xs) : SqL K H' a xs := e.seq h
theorem sm_t {K : PySem.W.Frag} {H H' : Hp} {a : Addr} {xs : List V} (e : Same H H') (h : SqT K H a xs) : SqT K H' a xs := by
  rcases h with (h | ⟨o, h⟩) | h
  · exact .inl (.inl (e.o _ _ h (fun _ z => nomatch z)))
  · exact .inl (.inr ⟨o, e.o _ _ h (fun _ z => nomatch z)⟩)
  · exact .inr h
mutual
theorem dp_mono {K : PySem.W.Frag} {H H' : Hp} (e : Same H H') : ∀ (d : PyData) (v : V), Dp K H v d → Dp K H' v d
  | .none, _, h => by cases h; exact .non
  | .bool b, _, h => by cases h; exact .bl b
  | .int i, _, h => by cases h; exact .int i
  | .str x, _, h => by cases h; exact .str x
  | .list ds, _, h => by
    cases h with
    | lst hs ha => exact .lst (sm_l e hs) (dpall_mono e ds _ ha)
  | .tuple ds, _, h => by
    cases h with
    | tup hs ha => exact .tup (sm_t e hs) (dpall_mono e ds _ ha)
  | .dict _, _, h => by cases h
theorem dpall_mono {K : PySem.W.Frag} {H H' : Hp} (e : Same H H') : ∀ (ds : List PyData) (vs : List V), DpAll K H vs ds → DpAll K H' vs ds
  | [], _, h => by cases h; exact .nil
  | d :: ds, _, h => by
    cases h with
    | cons h1 h2 => exact .cons (dp_mono e d _ h1) (dpall_mono e ds _ h2)
end
theorem kd_mono {K : PySem.W.Frag} {H H' : Hp} (e : Same H H') {es : Ents} {kvs : List (NestedKey × PyData)} (h : KD K H es kvs) : KD K H' es kvs :=
  ⟨Paired.mapP h.1 fun _ _ q => ⟨q.1, dp_mono e _ _ q.2⟩, fun x hx => ⟨dp_mono e _ _ (h.2 x hx).dp, (h.2 x hx).dep⟩⟩
/-- what an owner needs of a change elsewhere -/
structure Kp (fp : List Addr) (I H I' H' : Hp) : Prop where
  ii : Same I I'
  own : ∀ a, a ∈ fp → H' a = H a ∧ I' a = none
  tup : ∀ a vs, H a = some (.tup vs) → H' a = some (.tup vs)
theorem Kp.sub {fp gp : List Addr} {I H I' H' : Hp} (k : Kp fp I H I' H') (h : ∀ a, a ∈ gp → a ∈ fp) : Kp gp I H I' H' := ⟨k.ii, fun a ha => k.own a (h a ha), k.tup⟩
section
variable {c : Ctx} {I H I' H' : Hp}
mutual
theorem RepR.keep : ∀ {r : R} {v : V} {fp : List Addr}, RepR c I H v r fp → Kp fp I H I' H' → RepR c I' H' v r fp
  | .d x, _, _, h, k => by cases h with | d h => exact .d (dp_mono k.ii _ _ h)
  | .ol xs, _, _, h, k => by
    cases h with
    | ol h1 h2 h3 =>
      obtain ⟨e1, e2⟩ := k.own _ (List.mem_singleton.mpr rfl)
      exact .ol (e1.trans h1) e2 (dpall_mono k.ii _ _ h3)
  | .on rs, _, _, h, k => by
    cases h with
    | on h1 h2 h3 =>
      obtain ⟨e1, e2⟩ := k.own _ List.mem_cons_self
      exact .on (e1.trans h1) e2 (RepRs.keep h3 (k.sub fun a ha => List.mem_cons_of_mem _ ha))
  | .tn rs, _, _, h, k => by
    cases h with
    | tn h1 h3 => exact .tn (k.tup _ _ h1) (RepRs.keep h3 k)
  | .dt kvs, _, _, h, k => by
    cases h with
    | dt h1 h2 h3 =>
      obtain ⟨e1, e2⟩ := k.own _ (List.mem_singleton.mpr rfl)
      exact .dt (e1.trans h1) e2 (kd_mono k.ii h3)
  | .dk n rs, _, _, h, k => by
    cases h with
    | dk h1 h2 h3 h4 =>
      obtain ⟨e1, e2⟩ := k.own _ List.mem_cons_self
      exact .dk (e1.trans h1) e2 h3 (RepRs.keep h4 (k.sub fun a ha => List.mem_cons_of_mem _ ha))
  | .ob n rs, _, _, h, k => by
    cases h with
    | ob h1 h2 h3 h4 =>
      obtain ⟨e1, e2⟩ := k.own _ List.mem_cons_self
      exact .ob (e1.trans h1) e2 h3 (RepRs.keep h4 (k.sub fun a ha => List.mem_cons_of_mem _ ha))
  | .junk, _, _, h, k => by cases h; exact .junk
theorem RepRs.keep : ∀ {rs : List R} {vs : List V} {fp : List Addr}, RepRs c I H vs rs fp → Kp fp I H I' H' → RepRs c I' H' vs rs fp
  | [], _, _, h, k => by cases h; exact .nil
  | r :: rs, _, _, h, k => by
    cases h with
    | cons h1 h2 => exact .cons (RepR.keep h1 (k.sub fun a ha => List.mem_append_left _ ha)) (RepRs.keep h2 (k.sub fun a ha => List.mem_append_right _ ha))
end
theorem RepE.keep {σ : L2.St} {ρ : List R} {fp : List Addr} (h : RepE c I H σ ρ fp) : Kp fp I H I' H' → RepE c I' H' σ ρ fp := by
  induction h with
  | nil => intro _; exact .nil
  | unset h ih => intro k; exact .unset (ih k)
  | cons h1 h2 ih => intro k; exact .cons (h1.keep (k.sub fun a ha => List.mem_append_left _ ha)) (ih (k.sub fun a ha => List.mem_append_right _ ha))
/-- what an owned address is -/
def OwnA (I H : Hp) (a : Addr) : Prop := I a = none ∧ ∃ o, H a = some o ∧ (∀ vs, o ≠ .tup vs) ∧ ∀ ps, o ≠ .tbl ps
mutual
theorem RepR.own : ∀ {r : R} {v : V} {fp : List Addr}, RepR c I H v r fp → ∀ a, a ∈ fp → OwnA I H a
  | .d x, _, _, h, a, ha => by cases h; cases ha
  | .ol xs, _, _, h, a, ha => by
    cases h with
    | ol h1 h2 h3 =>
      rw [List.mem_singleton.mp ha]
      exact ⟨h2, _, h1, (fun _ e => nomatch e), (fun _ e => nomatch e)⟩
  | .on rs, _, _, h, a, ha => by
    cases h with
    | on h1 h2 h3 =>
      rcases List.mem_cons.mp ha with rfl | ha
      · exact ⟨h2, _, h1, (fun _ e => nomatch e), (fun _ e => nomatch e)⟩
      · exact RepRs.own h3 a ha
  | .tn rs, _, _, h, a, ha => by
    cases h with
    | tn h1 h3 => exact RepRs.own h3 a ha
  | .dt kvs, _, _, h, a, ha => by
    cases h with
    | dt h1 h2 h3 =>
      rw [List.mem_singleton.mp ha]
      exact ⟨h2, _, h1, (fun _ e => by unfold DX at e; cases e), (fun _ e => by unfold DX at e; cases e)⟩
  | .dk n rs, _, _, h, a, ha => by
    cases h with
    | dk h1 h2 h3 h4 =>
      rcases List.mem_cons.mp ha with rfl | ha
      · exact ⟨h2, _, h1, (fun _ e => nomatch e), (fun _ e => nomatch e)⟩
      · exact RepRs.own h4 a ha
  | .ob n rs, _, _, h, a, ha => by
    cases h with
    | ob h1 h2 h3 h4 =>
      rcases List.mem_cons.mp ha with rfl | ha
      · exact ⟨h2, _, h1, (fun _ e => nomatch e), (fun _ e => nomatch e)⟩
      · exact RepRs.own h4 a ha
  | .junk, _, _, h, a, ha => by cases h; cases ha
theorem RepRs.own : ∀ {rs : List R} {vs : List V} {fp : List Addr}, RepRs c I H vs rs fp → ∀ a, a ∈ fp → OwnA I H a
  | [], _, _, h, a, ha => by cases h; cases ha
  | r :: rs, _, _, h, a, ha => by
    cases h with
    | cons h1 h2 => exact (List.mem_append.mp ha).elim (RepR.own h1 a) (RepRs.own h2 a)
end
theorem RepE.own {σ : L2.St} {ρ : List R} {fp : List Addr} (h : RepE c I H σ ρ fp) : ∀ a, a ∈ fp → OwnA I H a := by
  induction h with
  | nil => intro a ha; cases ha
  | unset h ih => exact ih
  | cons h1 h2 ih => intro a ha; exact (List.mem_append.mp ha).elim (h1.own a) (ih a)
end
/-! ### a step of the heap: the owned fp (of the heap H, over the immutable part I) becomes the owned fp' -/
structure Stp [TabsOf] (fp : List Addr) (I H : Hp) (fp' : List Addr) (I' H' : Hp) : Prop where
  ii : Same I I'
  ih : Same I' H'
  kp : ∀ a o, H a = some o → (∀ ps, o ≠ .tbl ps) → a ∉ fp → H' a = some o
  tp : ∀ a vs, H a = some (.tup vs) → H' a = some (.tup vs)
  fo : ∀ a, a ∈ fp' → a ∈ fp ∨ H a = none
  fz : ∀ a, I a = none → I' a ≠ none → a ∈ fp ∨ H a = none ∨ ∃ vs, H a = some (.tup vs)
  tl : ∀ a ps, H a = some (.tbl ps) → ∃ qs, H' a = some (.tbl qs)
  tb : TabsH H → TabsH H'
section
variable [TabsOf]
theorem Stp.refl {fp : List Addr} {I H : Hp} (h : Same I H) : Stp fp I H fp I H :=
  ⟨Same.refl _, h, fun _ _ e _ _ => e, fun _ _ e => e, fun _ h => .inl h, fun _ h h' => absurd h h', fun _ ps e => ⟨ps, e⟩, fun t => t⟩
/-- what was there is there -/
theorem Stp.there {fp fp1 : List Addr} {I H I1 H1 : Hp} (a : Stp fp I H fp1 I1 H1) {x : Addr} {o : HO} (e : H x = some o) (n : x ∉ fp) : H1 x = some o ∨ ∃ ps qs, o = .tbl ps ∧ H1 x = some (.tbl qs) := by
  by_cases h : ∃ ps, o = .tbl ps
  · obtain ⟨ps, rfl⟩ := h
    obtain ⟨qs, z⟩ := a.tl x ps e
    exact .inr ⟨ps, qs, rfl, z⟩
  · exact .inl (a.kp x o e (fun ps z => h ⟨ps, z⟩) n)
theorem Stp.trans {fp fp1 fp2 : List Addr} {I H I1 H1 I2 H2 : Hp} (a : Stp fp I H fp1 I1 H1) (b : Stp fp1 I1 H1 fp2 I2 H2) : Stp fp I H fp2 I2 H2 where
  ii := a.ii.trans b.ii
  ih := b.ih
  kp := fun x o e t n => b.kp x o (a.kp x o e t n) t fun hx => by
    rcases a.fo x hx with h | h
    · exact n h
    · rw [e] at h; cases h
  tp := fun x vs e => b.tp x vs (a.tp x vs e)
  fo := fun x hx => by
    rcases b.fo x hx with h | h
    · exact a.fo x h
    · by_cases hm : x ∈ fp
      · exact .inl hm
      · cases e : H x with
        | none => exact .inr rfl
        | some o =>
          rcases a.there e hm with z | ⟨_, _, _, z⟩ <;> (rw [z] at h; cases h)
  fz := fun x h1 h2 => by
    by_cases hm : x ∈ fp
    · exact .inl hm
    cases e : H x with
    | none => exact .inr (.inl rfl)
    | some o =>
      by_cases h3 : I1 x = none
      · rcases a.there e hm with e1 | ⟨ps, qs, rfl, e1⟩
        · rcases b.fz x h3 h2 with h | h | ⟨vs, h⟩
          · rcases a.fo x h with h | h
            · exact absurd h hm
            · rw [e] at h; cases h
          · rw [e1] at h; cases h
          · rw [e1] at h; cases h; exact .inr (.inr ⟨vs, rfl⟩)
        · rcases b.fz x h3 h2 with h | h | ⟨vs, h⟩
          · rcases a.fo x h with h | h
            · exact absurd h hm
            · rw [e] at h; cases h
          · rw [e1] at h; cases h
          · rw [e1] at h; cases h
      · rcases a.fz x h1 h3 with h | h | h
        · exact absurd h hm
        · rw [e] at h; cases h
        · rw [e] at h; exact .inr (.inr h)
  tl := fun x ps e => by
    obtain ⟨qs, h⟩ := a.tl x ps e
    exact b.tl x qs h
  tb := fun t => b.tb (a.tb t)
/-- less is owned behind it -/
theorem Stp.less {fp fp1 gp : List Addr} {I H I1 H1 : Hp} (a : Stp fp I H fp1 I1 H1) (h : ∀ x, x ∈ gp → x ∈ fp1) : Stp fp I H gp I1 H1 := ⟨a.ii, a.ih, a.kp, a.tp, fun x hx => a.fo x (h x hx), a.fz, a.tl, a.tb⟩
/-- more is owned ahead of it -/
theorem Stp.more {fp fp1 gp : List Addr} {I H I1 H1 : Hp} (a : Stp fp I H fp1 I1 H1) (h : ∀ x, x ∈ fp → x ∈ gp) : Stp gp I H fp1 I1 H1 :=
  ⟨a.ii, a.ih, fun x o e t n => a.kp x o e t fun q => n (h x q), a.tp, fun x hx => (a.fo x hx).imp (h x) id, fun x h1 h2 => (a.fz x h1 h2).imp (h x) id, a.tl, a.tb⟩
/-- what is owned beside is not touched -/
theorem Stp.kept {fp fp1 gp : List Addr} {I H I1 H1 : Hp} (a : Stp fp I H fp1 I1 H1) (own : ∀ x, x ∈ gp → OwnA I H x) (dis : ∀ x, x ∈ gp → x ∉ fp) : Kp gp I H I1 H1 where
  ii := a.ii
  own := fun x hx => by
    obtain ⟨h1, o, h2, h3, h4⟩ := own x hx
    refine ⟨(a.kp x o h2 h4 (dis x hx)).trans h2.symm, ?_⟩
    by_cases h : I1 x = none
    · exact h
    · rcases a.fz x h1 h with q | q | ⟨vs, q⟩
      · exact absurd q (dis x hx)
      · rw [h2] at q; cases q
      · rw [h2] at q; cases q; exact absurd rfl (h3 vs)
  tup := a.tp
/-- .. and stays beside -/
theorem Stp.apart {fp fp1 gp : List Addr} {I H I1 H1 : Hp} (a : Stp fp I H fp1 I1 H1) (own : ∀ x, x ∈ gp → OwnA I H x) (dis : ∀ x, x ∈ gp → x ∉ fp) : ∀ x, x ∈ gp → x ∉ fp1 := fun x hx q => by
  obtain ⟨_, o, h2, _⟩ := own x hx
  rcases a.fo x q with z | z
  · exact dis x hx z
  · rw [h2] at z; cases z
/-- a step with gp carried along -/
theorem Stp.beside {fp fp1 gp : List Addr} {I H I1 H1 : Hp} (a : Stp fp I H fp1 I1 H1) : Stp (fp ++ gp) I H (fp1 ++ gp) I1 H1 where
  ii := a.ii
  ih := a.ih
  kp := fun x o e t n => a.kp x o e t fun q => n (List.mem_append_left _ q)
  tp := a.tp
  fo := fun x hx => by
    rcases List.mem_append.mp hx with h | h
    · exact (a.fo x h).imp (List.mem_append_left _) id
    · exact .inl (List.mem_append_right _ h)
  fz := fun x h1 h2 => (a.fz x h1 h2).imp (List.mem_append_left _) id
  tl := a.tl
  tb := a.tb
/-- a step that keeps all that is tracked -/
theorem Stp.ofSame {fp fp' : List Addr} {I H I' H' : Hp} (ii : Same I I') (ih : Same I' H') (hh : L2.Same H H') (fo : ∀ a, a ∈ fp' → a ∈ fp ∨ H a = none) (fz : ∀ a, I a = none → I' a ≠ none → a ∈ fp ∨ H a = none ∨ ∃ vs, H a = some (.tup vs)) : Stp fp I H fp' I' H' :=
  ⟨ii, ih, fun a o e _ _ => hh a o e, fun a vs e => hh a _ e, fo, fz, fun a ps e => ⟨ps, hh a _ e⟩, fun t => t.ext hh⟩
/-- an owned thing is written -/
theorem tabs_upd {H : Hp} {p : Addr} {o u : HO} (e : H p = some o) (n1 : ∀ ps, o ≠ .tbl ps) (n2 : ∀ q, o ≠ LamX.CodeO p q) (t : TabsH H) : TabsH (upd H p u) := fun z hz => by
  obtain ⟨ps, h1, h2, h3⟩ := t z hz
  have np : z.1 ≠ p := fun q => by
    rw [q, e] at h1; cases h1; exact n1 _ rfl
  refine ⟨ps, by rw [upd_ne np]; exact h1, h2, fun pos cv hc => ?_⟩
  obtain ⟨c, e1, e2⟩ := h3 pos cv hc
  refine ⟨c, e1, ?_⟩
  have nc : c ≠ p := fun q => by
    subst q
    rw [e] at e2; cases e2; exact n2 _ rfl
  rw [upd_ne nc]; exact e2
theorem Stp.ofUpd {I H : Hp} {p : Addr} {o u : HO} (ih : Same I H) (e : H p = some o) (ni : I p = none) (n0 : ∀ vs, o ≠ .tup vs) (n1 : ∀ ps, o ≠ .tbl ps) (n2 : ∀ q, o ≠ LamX.CodeO p q) : Stp [p] I H [p] I (upd H p u) :=
  ⟨Same.refl _, ⟨fun a x h nt => by
    by_cases ha : a = p
    · subst ha; rw [ni] at h; cases h
    · rw [upd_ne ha]; exact ih.o a x h nt, fun a ps h => by
    by_cases ha : a = p
    · subst ha; rw [ni] at h; cases h
    · rw [upd_ne ha]; exact ih.t a ps h⟩, fun a x h _ n => by rw [upd_ne (fun z => n (by simp [z]))]; exact h, fun a vs h => by
    have : a ≠ p := fun z => by subst z; rw [e] at h; cases h; exact n0 _ rfl
    rw [upd_ne this]; exact h, fun a ha => .inl ha, fun a h1 h2 => absurd h1 h2, fun a ps h => by
    have : a ≠ p := fun z => by subst z; rw [e] at h; cases h; exact n1 _ rfl
    exact ⟨ps, by rw [upd_ne this]; exact h⟩, tabs_upd e n1 n2⟩
end
/-! ### freezing: what is owned becomes immutable -/
open Classical in
noncomputable def frz (I H : Hp) (fp : List Addr) : Hp := fun a => if a ∈ fp ∨ ∃ vs, H a = some (.tup vs) then H a else I a
section
variable {c : Ctx} {I H : Hp} {fp : List Addr}
theorem frz_ii (h : Same I H) : Same I (frz I H fp) := ⟨fun a o e n => by
  unfold frz
  split
  · exact h.o a o e n
  · exact e, fun a ps e => by
  unfold frz
  split
  · exact h.t a ps e
  · exact ⟨ps, e⟩⟩
theorem frz_ih (h : Same I H) : Same (frz I H fp) H := ⟨fun a o e n => by
  unfold frz at e
  split at e
  · exact e
  · exact h.o a o e n, fun a ps e => by
  unfold frz at e
  split at e
  · exact ⟨ps, e⟩
  · exact h.t a ps e⟩
theorem frz_at {a : Addr} (h : a ∈ fp) : frz I H fp a = H a := by
  unfold frz
  rw [if_pos (.inl h)]
theorem frz_tup {a : Addr} {vs : List V} (h : H a = some (.tup vs)) : frz I H fp a = some (.tup vs) := by
  unfold frz
  rw [if_pos (.inr ⟨vs, h⟩)]; exact h
theorem frz_none {a : Addr} (h : OwnA I H a) (n : a ∉ fp) : frz I H fp a = none := by
  unfold frz
  rw [if_neg]
  · exact h.1
  · rintro (q | ⟨vs, q⟩)
    · exact n q
    · obtain ⟨_, o, e, z, _⟩ := h
      rw [e] at q; cases q; exact z _ rfl
theorem frz_stp [TabsOf] (h : Same I H) : Stp fp I H [] (frz I H fp) H :=
  Stp.ofSame (frz_ii h) (frz_ih h) (L2.Same.refl _) (fun _ h => absurd h (by simp)) fun a h1 h2 => by
    by_cases hm : a ∈ fp
    · exact .inl hm
    · by_cases ht : ∃ vs, H a = some (.tup vs)
      · exact .inr (.inr ht)
      · refine absurd ?_ h2
        unfold frz
        rw [if_neg (by rintro (q | q); exact hm q; exact ht q)]; exact h1
end
mutual
def toD : R → Option PyData
  | .d x => some x
  | .ol xs => some (.list xs)
  | .on rs => (toDs rs).map .list
  | .tn rs => (toDs rs).map .tuple
  | _ => none
def toDs : List R → Option (List PyData)
  | [] => some []
  | r :: rs => (toD r).bind fun x => (toDs rs).map (x :: ·)
end
section
variable {c : Ctx} {I H I' : Hp}
mutual
theorem RepR.toDp (ii : Same I I') (ht : ∀ a vs, H a = some (.tup vs) → I' a = some (.tup vs)) : ∀ {r : R} {v : V} {fp : List Addr} {x : PyData}, RepR c I H v r fp → (∀ a, a ∈ fp → I' a = H a) → toD r = some x → Dp c.K I' v x
  | .d x, _, _, _, h, k, e => by
    cases h with
    | d h => unfold toD at e; cases e; exact dp_mono ii _ _ h
  | .ol xs, _, _, _, h, k, e => by
    cases h with
    | ol h1 h2 h3 => unfold toD at e; cases e; exact .lst (.inl (.inl ((k _ (List.mem_singleton.mpr rfl)).trans h1))) (dpall_mono ii _ _ h3)
  | .on rs, _, _, _, h, k, e => by
    cases h with
    | on h1 h2 h3 =>
      unfold toD at e
      cases e2 : toDs rs with
      | none => rw [e2] at e; cases e
      | some ds =>
        rw [e2] at e; cases e
        exact .lst (.inl (.inl ((k _ List.mem_cons_self).trans h1))) (RepRs.toDp ii ht h3 (fun a ha => k a (List.mem_cons_of_mem _ ha)) e2)
  | .tn rs, _, _, _, h, k, e => by
    cases h with
    | tn h1 h3 =>
      unfold toD at e
      cases e2 : toDs rs with
      | none => rw [e2] at e; cases e
      | some ds =>
        rw [e2] at e; cases e
        exact .tup (.inl (.inl (ht _ _ h1))) (RepRs.toDp ii ht h3 k e2)
  | .dt _, _, _, _, _, _, e => by unfold toD at e; cases e
  | .dk _ _, _, _, _, _, _, e => by unfold toD at e; cases e
  | .ob _ _, _, _, _, _, _, e => by unfold toD at e; cases e
  | .junk, _, _, _, _, _, e => by unfold toD at e; cases e
theorem RepRs.toDp (ii : Same I I') (ht : ∀ a vs, H a = some (.tup vs) → I' a = some (.tup vs)) : ∀ {rs : List R} {vs : List V} {fp : List Addr} {xs : List PyData}, RepRs c I H vs rs fp → (∀ a, a ∈ fp → I' a = H a) → toDs rs = some xs → DpAll c.K I' vs xs
  | [], _, _, _, h, k, e => by cases h; unfold toDs at e; cases e; exact .nil
  | r :: rs, _, _, _, h, k, e => by
    cases h with
    | cons h1 h2 =>
      unfold toDs at e
      cases e1 : toD r with
      | none => rw [e1] at e; cases e
      | some x =>
        cases e2 : toDs rs with
        | none => rw [e1, e2] at e; cases e
        | some xs =>
          rw [e1, e2] at e; cases e
          exact .cons (RepR.toDp ii ht h1 (fun a ha => k a (List.mem_append_left _ ha)) e1) (RepRs.toDp ii ht h2 (fun a ha => k a (List.mem_append_right _ ha)) e2)
end
theorem RepR.frz {v : V} {r : R} {fp : List Addr} {x : PyData} (h : RepR c I H v r fp) (ih : Same I H) (e : toD r = some x) : Dp c.K (frz I H fp) v x :=
  h.toDp (frz_ii ih) (fun a vs q => frz_tup q) (fun a ha => frz_at ha) e
end
end TP
set_option linter.all false
set_option maxRecDepth 100000
set_option maxHeartbeats 2000000
/-! TPb: the state (Good), results (Rs), readings (tE), paths, operands. -/
namespace TP
open PySem PySem.Spec PyProof.Rows L2
/-! ### places within -/
inductive Sx where
  | ix
  | ky (n : Nat)
  | fd (n : Nat)
def kids : Sx → R → Option (List R)
  | .ix, .on rs => some rs
  | .ix, .tn rs => some rs
  | .ky n, .dk m rs => if m = n then some rs else none
  | .fd n, .ob m rs => if m = n then some rs else none
  | _, _ => none
def reKid : R → List R → R
  | .on _, rs => .on rs
  | .tn _, rs => .tn rs
  | .dk n _, rs => .dk n rs
  | .ob n _, rs => .ob n rs
  | r, _ => r
/-- the innermost place first; of each place the number of the names (of an object, a written dict), then the place -/
def getP (ρ : List R) (i : Nat) : List (Sx × Nat) → Option R
  | [] => ρ[i]?
  | (n, k) :: π => (getP ρ i π).bind fun r => (kids n r).bind fun rs => rs[k]?
def setP (ρ : List R) (i : Nat) : List (Sx × Nat) → R → List R
  | [], q => ρ.set i q
  | (n, k) :: π, q => match getP ρ i π with
    | some r => (match kids n r with
      | some rs => setP ρ i π (reKid r (rs.set k q))
      | none => ρ)
    | none => ρ
section
variable {c : Ctx} {I H I' H' : Hp}
theorem kp_split {pre gp post : List Addr} {I H I' H' : Hp} (k : Kp (pre ++ post) I H I' H') : Kp pre I H I' H' ∧ Kp post I H I' H' :=
  ⟨k.sub fun a ha => List.mem_append_left _ ha, k.sub fun a ha => List.mem_append_right _ ha⟩
theorem RepRs.len {vs : List V} {rs : List R} {fp : List Addr} (h : RepRs c I H vs rs fp) : vs.length = rs.length := by
  induction rs generalizing vs fp with
  | nil => cases h; rfl
  | cons r rs ih =>
    cases h with
    | cons h1 h2 => simp [ih h2]
theorem RepRs.at {q : R} : ∀ {k : Nat} {rs : List R} {vs : List V} {fp : List Addr}, RepRs c I H vs rs fp → rs[k]? = some q → ∃ v pre gp post, vs[k]? = some v ∧ fp = pre ++ gp ++ post ∧ RepR c I H v q gp ∧
    ∀ I' H' q' gp', Kp (pre ++ post) I H I' H' → RepR c I' H' v q' gp' → RepRs c I' H' vs (rs.set k q') (pre ++ gp' ++ post)
  | _, [], _, _, h, e => by simp at e
  | 0, r :: rs, _, _, h, e => by
    cases h with
    | @cons v _ gp vs _ fp h1 h2 =>
      simp at e; subst e
      refine ⟨v, [], gp, fp, rfl, rfl, h1, fun I' H' q' gp' k h3 => ?_⟩
      exact .cons h3 (h2.keep k)
  | k + 1, r :: rs, _, _, h, e => by
    cases h with
    | @cons v _ gp vs _ fp h1 h2 =>
      obtain ⟨v', pre, gp', post, e1, e2, h3, f⟩ := RepRs.at (k := k) h2 (by simpa using e)
      refine ⟨v', gp ++ pre, gp', post, by simpa using e1, by rw [e2]; simp [List.append_assoc], h3, fun I' H' q' gp'' kk h4 => ?_⟩
      have z := RepRs.cons (h1.keep (kk.sub fun a ha => by simp [ha])) (f I' H' q' gp'' (kk.sub fun a ha => by simp at ha ⊢; rcases ha with h | h <;> simp [h]) h4)
      simpa [List.append_assoc] using z
/-- a slot's place: what is owned there, and what may be put there -/
theorem RepE.at {r : R} : ∀ {i : Nat} {σ : L2.St} {ρ : List R} {fp : List Addr}, RepE c I H σ ρ fp → ρ[i]? = some r → ∃ pre gp post, fp = pre ++ gp ++ post ∧
    (r = .junk ∨ ∃ v, σ[i]? = some (some v) ∧ RepR c I H v r gp) ∧
    ∀ I' H' o r' gp', Kp (pre ++ post) I H I' H' → ((r' = .junk ∧ gp' = []) ∨ ∃ v, o = some v ∧ RepR c I' H' v r' gp') → RepE c I' H' (σ.set i o) (ρ.set i r') (pre ++ gp' ++ post)
  | _, _, [], _, _, e => by simp at e
  | 0, _, q :: ρ, _, h, e => by
    simp at e; subst e
    cases h with
    | unset h =>
      refine ⟨[], [], _, rfl, .inl rfl, fun I' H' o r' gp' k h3 => ?_⟩
      rcases h3 with ⟨rfl, rfl⟩ | ⟨v, rfl, h3⟩
      · exact .unset (h.keep k)
      · exact .cons h3 (h.keep k)
    | @cons v _ gp σ _ fp h1 h2 =>
      refine ⟨[], gp, fp, rfl, .inr ⟨v, rfl, h1⟩, fun I' H' o r' gp' k h3 => ?_⟩
      rcases h3 with ⟨rfl, rfl⟩ | ⟨v, rfl, h3⟩
      · exact .unset (h2.keep k)
      · exact .cons h3 (h2.keep k)
  | i + 1, _, q :: ρ, _, h, e => by
    cases h with
    | @unset o σ _ fp h =>
      obtain ⟨pre, gp, post, e2, h3, f⟩ := RepE.at (i := i) h (by simpa using e)
      refine ⟨pre, gp, post, e2, by simpa using h3, fun I' H' o' r' gp' k h4 => ?_⟩
      exact .unset (f I' H' o' r' gp' k h4)
    | @cons v _ gp0 σ _ fp h1 h2 =>
      obtain ⟨pre, gp, post, e2, h3, f⟩ := RepE.at (i := i) h2 (by simpa using e)
      refine ⟨gp0 ++ pre, gp, post, by rw [e2]; simp [List.append_assoc], by simpa using h3, fun I' H' o' r' gp' k h4 => ?_⟩
      have z := RepE.cons (h1.keep (k.sub fun a ha => by simp [ha])) (f I' H' o' r' gp' (k.sub fun a ha => by simp at ha ⊢; rcases ha with h | h <;> simp [h]) h4)
      simpa [List.append_assoc] using z
theorem RepE.len {σ : L2.St} {ρ : List R} {fp : List Addr} (h : RepE c I H σ ρ fp) : σ.length = ρ.length := by
  induction h with
  | nil => rfl
  | unset _ ih => simp [ih]
  | cons _ _ ih => simp [ih]
theorem RepE.val {i : Nat} {r : R} {σ : L2.St} {ρ : List R} {fp : List Addr} (h : RepE c I H σ ρ fp) (e : ρ[i]? = some r) (n : r ≠ .junk) : ∃ v, σ[i]? = some (some v) := by
  obtain ⟨_, _, _, _, h3, _⟩ := h.at e
  rcases h3 with z | ⟨v, z, _⟩
  · exact absurd z n
  · exact ⟨v, z⟩
end
/-! ### the state -/
structure Good [TabsOf] (c : Ctx) (I H : Hp) (σ : L2.St) (ρ : List R) (fp : List Addr) : Prop where
  ih : Same I H
  rep : RepE c I H σ ρ fp
  nd : fp.Nodup
  par : ∀ i, i ∈ c.pi → σ[i]? = some (some (c.pv i))
  tb : TabsH H
section
variable [TabsOf] {c : Ctx} {I H I' H' : Hp} {σ : L2.St} {ρ : List R} {fp fr gp : List Addr}
theorem nd_app {a b : List Addr} : (a ++ b).Nodup ↔ a.Nodup ∧ b.Nodup ∧ ∀ x, x ∈ a → x ∉ b := by
  rw [List.nodup_append]
  constructor
  · rintro ⟨h1, h2, h3⟩
    exact ⟨h1, h2, fun x hx hb => h3 x hx x hb rfl⟩
  · rintro ⟨h1, h2, h3⟩
    refine ⟨h1, h2, fun x hx y hy e => ?_⟩
    subst e; exact h3 x hx hy
theorem nd_comm {a b : List Addr} (h : (a ++ b).Nodup) : (b ++ a).Nodup := by
  obtain ⟨h1, h2, h3⟩ := nd_app.mp h
  exact nd_app.mpr ⟨h2, h1, fun x hx ha => h3 x ha hx⟩
/-- a temporary is frozen -/
theorem Good.frz {v : V} {r : R} (G : Good c I H σ ρ fp) (h : RepR c I H v r fr) (nd : (fp ++ fr).Nodup) : Good c (frz I H fr) H σ ρ fp :=
  ⟨frz_ih G.ih, G.rep.keep ⟨frz_ii G.ih, fun a ha => ⟨rfl, frz_none (G.rep.own a ha) fun q => (nd_app.mp nd).2.2 a ha q⟩, fun _ _ e => e⟩, G.nd, G.par, G.tb⟩
theorem Stp.frz {fp0 : List Addr} {I0 H0 : Hp} (st : Stp fp0 I0 H0 (fp ++ fr) I H) : Stp fp0 I0 H0 fp (frz I H fr) H := by
  have z := st.trans ((frz_stp (fp := fr) st.ih).more (gp := fp ++ fr) fun x hx => List.mem_append_right _ hx)
  exact ⟨z.ii, z.ih, z.kp, z.tp, fun x hx => st.fo x (List.mem_append_left _ hx), z.fz, z.tl, z.tb⟩
/-- something fresh is made -/
theorem Good.new (G : Good c I H σ ρ fp) (st : Stp [] I H fr I' H') : Good c I' H' σ ρ fp :=
  ⟨st.ih, G.rep.keep (st.kept G.rep.own fun _ _ h => by cases h), G.nd, G.par, st.tb G.tb⟩
theorem nd_new (G : Good c I H σ ρ fp) (st : Stp [] I H fr I' H') (nd : fr.Nodup) : (fp ++ fr).Nodup :=
  nd_app.mpr ⟨G.nd, nd, st.apart G.rep.own fun _ _ h => by cases h⟩
theorem Stp.new {fp0 : List Addr} {I0 H0 : Hp} (a : Stp fp0 I0 H0 fp I H) (st : Stp [] I H fr I' H') : Stp fp0 I0 H0 (fp ++ fr) I' H' :=
  a.trans (by
    refine ⟨st.ii, st.ih, fun x o e t _ => st.kp x o e t (by simp), st.tp, fun x hx => ?_, fun x h1 h2 => (st.fz x h1 h2).elim (fun z => by cases z) .inr, st.tl, st.tb⟩
    rcases List.mem_append.mp hx with h | h
    · exact .inl h
    · exact .inr ((st.fo x h).elim (fun z => by cases z) id))
end
/-! ### results -/
section
/-- an exception: its class by number; the row that it bears -/
structure Xc where
  n : Nat
  row : Option Int
inductive Rs (α : Type) where
  | ok (a : α) (ρ : List R)
  | ex (x : Xc) (ρ : List R)
  | no
def Rs.bind {α β : Type} (r : Rs α) (f : α → List R → Rs β) : Rs β := match r with
  | .ok a ρ => f a ρ
  | .ex x ρ => .ex x ρ
  | .no => .no
theorem Rs.bind_ok {α β : Type} (a : α) (ρ : List R) (f : α → List R → Rs β) : (Rs.ok a ρ).bind f = f a ρ := rfl
theorem Rs.bind_ex {α β : Type} (x : Xc) (ρ : List R) (f : α → List R → Rs β) : (Rs.ex x ρ).bind f = .ex x ρ := rfl
theorem Rs.bind_no {α β : Type} (f : α → List R → Rs β) : (Rs.no : Rs α).bind f = .no := rfl
abbrev EF := List R → Rs R
end
variable [TabsOf]
def WishX (c : Ctx) (E : XK) (x : Xc) (H : Hp) : Prop := match x.row with
  | none => E (.ref (c.cls x.n)) none H
  | some i => ∀ d, H d = some (.xd [("row", .int i)]) → E (.ref (c.cls x.n)) (some d) H
def Wx (c : Ctx) (E : XK) (I H : Hp) (fp : List Addr) (x : Xc) (ρ' : List R) : Prop :=
  ∀ σ' I' H' fp', Good c I' H' σ' ρ' fp' → Stp fp I H fp' I' H' → WishX c E x H'
theorem Wx.mono {c : Ctx} {E : XK} {I H I1 H1 : Hp} {fp fp1 : List Addr} {x : Xc} {ρ' : List R} (h : Wx c E I H fp x ρ') (st : Stp fp I H fp1 I1 H1) : Wx c E I1 H1 fp1 x ρ' :=
  fun σ' I' H' fp' G s2 => h σ' I' H' fp' G (st.trans s2)
def OutG {α : Type} (c : Ctx) (E : XK) (I H : Hp) (fp : List Addr) (o : Rs α) (P : α → List R → Prop) : Prop := match o with
  | .ok a ρ' => P a ρ'
  | .ex x ρ' => Wx c E I H fp x ρ'
  | .no => False
section
variable {α β : Type} {c : Ctx} {E : XK} {I H I1 H1 : Hp} {fp fp1 : List Addr}
theorem OutG.bind {o : Rs α} {k : α → List R → Rs β} {P : β → List R → Prop} (h : OutG c E I H fp (o.bind k) P) : OutG c E I H fp o fun a ρ' => OutG c E I H fp (k a ρ') P := by
  cases o <;> exact h
theorem OutG.imp {o : Rs α} {P P' : α → List R → Prop} (h : OutG c E I H fp o P) (f : ∀ a ρ', P a ρ' → P' a ρ') : OutG c E I H fp o P' := by
  cases o with
  | ok a ρ => exact f _ _ h
  | ex x ρ => exact h
  | no => exact h
theorem OutG.wx {o : Rs α} {P : α → List R → Prop} (h : OutG c E I H fp o P) (st : Stp fp I H fp1 I1 H1) : OutG c E I1 H1 fp1 o P := by
  cases o with
  | ok a ρ => exact h
  | ex x ρ => exact Wx.mono h st
  | no => exact h
end
/-- behind an expression -/
def PostE (c : Ctx) (I H : Hp) (fp : List Addr) (σ : L2.St) (Q : VK) : R → List R → Prop := fun r ρ' =>
  ∀ v I' H' fp' fr, Good c I' H' σ ρ' fp' → RepR c I' H' v r fr → (fp' ++ fr).Nodup → Stp fp I H (fp' ++ fr) I' H' → Q v H'
def tE (c : Ctx) (E : XK) (f : EF) : TE := fun σ H Q => ∃ I ρ fp, Good c I H σ ρ fp ∧ OutG c E I H fp (f ρ) (PostE c I H fp σ Q)
def SE (X : Cx) (c : Ctx) (E : XK) (e : Expr) (f : EF) : Prop := PE X e (tE c E f)
theorem pe_imp {X : Cx} {e : Expr} {t t' : TE} (h : PE X e t) (i : ∀ σ H Q, t' σ H Q → t σ H Q) : PE X e t' := ⟨fun pins s σ H Q I q => h.run pins s σ H Q I (i σ H Q q)⟩
/-- a test: gives a truth value -/
abbrev TF := List R → Rs Bool
def PostT (c : Ctx) (I H : Hp) (fp : List Addr) (σ : L2.St) (Q : Bool → Hp → Prop) : Bool → List R → Prop := fun b ρ' =>
  ∀ I' H' fp', Good c I' H' σ ρ' fp' → Stp fp I H fp' I' H' → Q b H'
def tT (c : Ctx) (E : XK) (f : TF) : TT := fun σ H Q => ∃ I ρ fp, Good c I H σ ρ fp ∧ OutG c E I H fp (f ρ) (PostT c I H fp σ Q)
def ST (X : Cx) (c : Ctx) (E : XK) (e : Expr) (f : TF) : Prop := PT X e (tT c E f)
theorem pt_imp {X : Cx} {e : Expr} {t t' : TT} (h : PT X e t) (i : ∀ σ H Q, t' σ H Q → t σ H Q) : PT X e t' := ⟨fun pins s σ H Q I q => h.run pins s σ H Q I (i σ H Q q)⟩
/-! ### places in the heap -/
/-- the value of the k-th part -/
def KidV (c : Ctx) (H : Hp) (r : R) (v : V) (k : Nat) (v' : V) : Prop := match r with
  | .on _ => ∃ p vs, v = .ref p ∧ H p = some (.lst vs) ∧ vs[k]? = some v'
  | .tn _ => ∃ p vs, v = .ref p ∧ H p = some (.tup vs) ∧ vs[k]? = some v'
  | .dk n _ => ∃ p es f, v = .ref p ∧ H p = some (.dK es) ∧ (c.sch n)[k]? = some f ∧ valV es (Sum.inr f) = some v'
  | .ob n _ => ∃ p dx es f, v = .ref p ∧ H p = some (.ins (c.cls n) dx es) ∧ (c.sch n)[k]? = some f ∧ es.lookup f = some v'
  | _ => False
/-- at the place i, π (the innermost first) lies r, by the value v, with what it owns, gp; and something else may be put there -/
def Sub (c : Ctx) (I H : Hp) (σ : L2.St) (ρ : List R) (fp : List Addr) (i : Nat) : List (Sx × Nat) → R → V → List Addr → Prop
  | [], r, v, gp => ρ[i]? = some r ∧ σ[i]? = some (some v) ∧ RepR c I H v r gp ∧ ∃ pre post, fp = pre ++ gp ++ post ∧
      ∀ I' H' r' gp', Kp (pre ++ post) I H I' H' → RepR c I' H' v r' gp' → RepE c I' H' σ (ρ.set i r') (pre ++ gp' ++ post)
  | (n, k) :: π, q, v', gp' => ∃ r v gp rs, Sub c I H σ ρ fp i π r v gp ∧ kids n r = some rs ∧ rs[k]? = some q ∧ KidV c H r v k v' ∧ RepR c I H v' q gp' ∧ ∃ pre post, fp = pre ++ gp' ++ post ∧
      ∀ I' H' r' gp'', Kp (pre ++ post) I H I' H' → RepR c I' H' v' r' gp'' → RepE c I' H' σ (setP ρ i ((n, k) :: π) r') (pre ++ gp'' ++ post)
section
variable {c : Ctx} {I H I' H' : Hp} {σ : L2.St} {ρ : List R} {fp gp : List Addr} {i : Nat}
theorem Sub.rep : ∀ {π : List (Sx × Nat)} {r : R} {v : V} {gp : List Addr}, Sub c I H σ ρ fp i π r v gp → RepR c I H v r gp
  | [], _, _, _, h => h.2.2.1
  | _ :: _, _, _, _, h => by obtain ⟨_, _, _, _, _, _, _, _, h, _⟩ := h; exact h
theorem Sub.fill : ∀ {π : List (Sx × Nat)} {r : R} {v : V} {gp : List Addr}, Sub c I H σ ρ fp i π r v gp → ∃ pre post, fp = pre ++ gp ++ post ∧
      ∀ I' H' r' gp', Kp (pre ++ post) I H I' H' → RepR c I' H' v r' gp' → RepE c I' H' σ (setP ρ i π r') (pre ++ gp' ++ post)
  | [], _, _, _, h => h.2.2.2
  | _ :: _, _, _, _, h => by obtain ⟨_, _, _, _, _, _, _, _, _, h⟩ := h; exact h
theorem Sub.get : ∀ {π : List (Sx × Nat)} {r : R} {v : V} {gp : List Addr}, Sub c I H σ ρ fp i π r v gp → getP ρ i π = some r
  | [], _, _, _, h => h.1
  | (n, k) :: π, _, _, _, h => by
    obtain ⟨r, v, gp, rs, h1, h2, h3, _⟩ := h
    show ((getP ρ i π).bind fun r => (kids n r).bind fun rs => rs[k]?) = _
    rw [h1.get, Option.bind_some, h2, Option.bind_some, h3]
theorem set_self {α : Type} : ∀ {l : List α} {i : Nat} {v : α}, l[i]? = some v → l.set i v = l
  | [], _, _, h => rfl
  | a :: l, 0, _, h => by simp at h; subst h; rfl
  | a :: l, i + 1, _, h => by
    rw [List.set_cons_succ, set_self (l := l) (i := i) (by simpa using h)]
theorem sub_root {r : R} (h : RepE c I H σ ρ fp) (e : ρ[i]? = some r) (n : r ≠ .junk) : ∃ v gp, Sub c I H σ ρ fp i [] r v gp := by
  obtain ⟨pre, gp, post, e1, h3, f⟩ := h.at e
  rcases h3 with z | ⟨v, hv, hr⟩
  · exact absurd z n
  refine ⟨v, gp, e, hv, hr, pre, post, e1, fun I' H' r' gp' k h4 => ?_⟩
  have z := f I' H' (some v) r' gp' k (.inr ⟨v, rfl, h4⟩)
  rw [set_self hv] at z
  exact z
end
end TP
set_option linter.all false
set_option maxRecDepth 100000
set_option maxHeartbeats 2000000
/-! TPc: deeper places; operands and their evaluation. -/
namespace TP
open PySem PySem.Spec PyProof.Rows L2
variable [TabsOf]
theorem valV_at {κ : Type} [DecidableEq κ] : ∀ {es : List (κ × V)} {k : Nat} {f : κ} {v : V}, (es.map (·.1)).Nodup → es[k]? = some (f, v) → valV es f = some v
  | [], _, _, _, _, h => by simp at h
  | e :: es, 0, f, v, _, h => by
    simp at h; subst h
    exact valV_pos rfl
  | e :: es, k + 1, f, v, nd, h => by
    have nd' := List.nodup_cons.mp (show (e.1 :: es.map (·.1)).Nodup from nd)
    have hm : f ∈ es.map (·.1) := List.mem_map.mpr ⟨(f, v), List.mem_of_getElem? (by simpa using h), rfl⟩
    rw [valV_neg (fun z => nd'.1 (by rw [z]; exact hm))]
    exact valV_at nd'.2 (by simpa using h)
theorem lookup_at : ∀ {es : List (Str × V)} {k : Nat} {f : Str} {v : V}, (es.map (·.1)).Nodup → es[k]? = some (f, v) → es.lookup f = some v
  | [], _, _, _, _, h => by simp at h
  | (g, w) :: es, 0, f, v, _, h => by
    simp at h; obtain ⟨rfl, rfl⟩ := h
    simp [List.lookup_cons]
  | (g, w) :: es, k + 1, f, v, nd, h => by
    have nd' := List.nodup_cons.mp (show (g :: es.map (·.1)).Nodup from nd)
    have hm : f ∈ es.map (·.1) := List.mem_map.mpr ⟨(f, v), List.mem_of_getElem? (by simpa using h), rfl⟩
    have ne : ¬ f = g := fun z => nd'.1 (by rw [← z]; exact hm)
    rw [List.lookup_cons]
    have : (f == g) = false := by simpa using ne
    rw [this]
    exact lookup_at nd'.2 (by simpa using h)
theorem zip_at {α β : Type} {es : List (α × β)} {ks : List α} {k : Nat} {v : β} (h1 : es.map (·.1) = ks) (h2 : (es.map (·.2))[k]? = some v) : ∃ f, ks[k]? = some f ∧ es[k]? = some (f, v) := by
  rw [List.getElem?_map] at h2
  cases e : es[k]? with
  | none => rw [e] at h2; cases h2
  | some p =>
    rw [e] at h2
    cases h2
    exact ⟨p.1, by rw [← h1, List.getElem?_map, e]; rfl, rfl⟩
section
variable {c : Ctx} {I H I' H' : Hp} {σ : L2.St} {ρ : List R} {fp gp : List Addr} {i : Nat}
theorem kids_at (hs : ∀ n, (c.sch n).Nodup) {r q : R} {v : V} {rs : List R} {m : Sx} {k : Nat} (h : RepR c I H v r gp) (hk : kids m r = some rs) (e : rs[k]? = some q) : ∃ v' pre gq post, KidV c H r v k v' ∧ gp = pre ++ gq ++ post ∧ RepR c I H v' q gq ∧
    ∀ I' H' q' gq', Kp (pre ++ post) I H I' H' → RepR c I' H' v' q' gq' → RepR c I' H' v (reKid r (rs.set k q')) (pre ++ gq' ++ post) := by
  cases h with
  | @on p vs _ fp0 h1 h2 h3 =>
    cases m with
    | ky m => cases hk
    | fd m => cases hk
    | ix =>
    cases hk
    obtain ⟨v', pre, gq, post, e1, e2, h4, f⟩ := h3.at e
    refine ⟨v', p :: pre, gq, post, ⟨p, vs, rfl, h1, e1⟩, by rw [e2]; simp, h4, fun I' H' q' gq' kk h5 => ?_⟩
    obtain ⟨o1, o2⟩ := kk.own p (by simp)
    exact .on (o1.trans h1) o2 (f I' H' q' gq' (kk.sub fun a ha => by simp at ha ⊢; rcases ha with h | h <;> simp [h]) h5)
  | @tn p vs _ fp0 h1 h3 =>
    cases m with
    | ky m => cases hk
    | fd m => cases hk
    | ix =>
    cases hk
    obtain ⟨v', pre, gq, post, e1, e2, h4, f⟩ := h3.at e
    exact ⟨v', pre, gq, post, ⟨p, vs, rfl, h1, e1⟩, e2, h4, fun I' H' q' gq' kk h5 => .tn (kk.tup _ _ h1) (f I' H' q' gq' kk h5)⟩
  | @dk p es n rs0 fp0 h1 h2 h3 h4 =>
    cases m with
    | ix => cases hk
    | fd m => cases hk
    | ky m =>
    have hk0 : (if n = m then some rs0 else none) = some rs := hk
    have hnm: n = m := by
      split at hk0
      · assumption
      · cases hk0
    rw [if_pos hnm] at hk0
    cases hk0
    obtain ⟨v', pre, gq, post, e1, e2, h5, f⟩ := h4.at e
    obtain ⟨kf, z1, z2⟩ := zip_at h3 e1
    rw [List.getElem?_map] at z1
    cases z3 : (c.sch n)[k]? with
    | none => rw [z3] at z1; cases z1
    | some fn =>
      rw [z3] at z1; cases z1
      have nd : (es.map (·.1)).Nodup := by
        rw [h3]
        exact List.Pairwise.map _ (fun a b z q => z (Sum.inr.inj q)) (hs n)
      refine ⟨v', p :: pre, gq, post, ⟨p, es, fn, rfl, h1, z3, valV_at nd z2⟩, by rw [e2]; simp, h5, fun I' H' q' gq' kk h6 => ?_⟩
      obtain ⟨o1, o2⟩ := kk.own p (by simp)
      exact .dk (o1.trans h1) o2 h3 (f I' H' q' gq' (kk.sub fun a ha => by simp at ha ⊢; rcases ha with h | h <;> simp [h]) h6)
  | @ob p dx es n rs0 fp0 h1 h2 h3 h4 =>
    cases m with
    | ix => cases hk
    | ky m => cases hk
    | fd m =>
    have hk0 : (if n = m then some rs0 else none) = some rs := hk
    have hnm: n = m := by
      split at hk0
      · assumption
      · cases hk0
    rw [if_pos hnm] at hk0
    cases hk0
    obtain ⟨v', pre, gq, post, e1, e2, h5, f⟩ := h4.at e
    obtain ⟨fn, z1, z2⟩ := zip_at h3 e1
    have z3 : (c.sch n)[k]? = some fn := by
      rw [List.getElem?_take] at z1
      split at z1
      · exact z1
      · cases z1
    have nd : (es.map (·.1)).Nodup := by
      rw [h3]
      exact (hs n).sublist (List.take_sublist _ _)
    refine ⟨v', p :: pre, gq, post, ⟨p, dx, es, fn, rfl, h1, z3, lookup_at nd z2⟩, by rw [e2]; simp, h5, fun I' H' q' gq' kk h6 => ?_⟩
    obtain ⟨o1, o2⟩ := kk.own p (by simp)
    refine .ob (o1.trans h1) o2 (by rw [List.length_set]; exact h3) (f I' H' q' gq' (kk.sub fun a ha => by simp at ha ⊢; rcases ha with h | h <;> simp [h]) h6)
  | _ => cases m <;> cases hk
theorem sub_kid (hs : ∀ n, (c.sch n).Nodup) {π : List (Sx × Nat)} {r q : R} {v : V} {rs : List R} {m : Sx} {k : Nat} (h : Sub c I H σ ρ fp i π r v gp) (hk : kids m r = some rs) (e : rs[k]? = some q) : ∃ v' gq, Sub c I H σ ρ fp i ((m, k) :: π) q v' gq := by
  obtain ⟨v', pre, gq, post, kv, eg, hq, f⟩ := kids_at hs h.rep hk e
  obtain ⟨pre0, post0, e0, f0⟩ := h.fill
  refine ⟨v', gq, r, v, gp, rs, h, hk, e, kv, hq, pre0 ++ pre, post ++ post0, by rw [e0, eg]; simp [List.append_assoc], fun I' H' r' gp'' kk h5 => ?_⟩
  have z1 := f I' H' r' gp'' (kk.sub fun a ha => by simp at ha ⊢; rcases ha with h | h <;> simp [h]) h5
  have z2 := f0 I' H' _ _ (kk.sub fun a ha => by simp at ha ⊢; rcases ha with h | h <;> simp [h]) z1
  have e3 : setP ρ i ((m, k) :: π) r' = setP ρ i π (reKid r (rs.set k r')) := by
    show (match getP ρ i π with | some r => (match kids m r with | some rs => setP ρ i π (reKid r (rs.set k r')) | none => ρ) | none => ρ) = _
    rw [h.get]
    show (match kids m r with | some rs => setP ρ i π (reKid r (rs.set k r')) | none => ρ) = _
    rw [hk]
  rw [e3]
  simpa [List.append_assoc] using z2
theorem sub_of (hs : ∀ n, (c.sch n).Nodup) (h : RepE c I H σ ρ fp) : ∀ {π : List (Sx × Nat)} {r : R}, getP ρ i π = some r → r ≠ .junk → ∃ v gp, Sub c I H σ ρ fp i π r v gp
  | [], r, e, n => sub_root h e n
  | (m, k) :: π, q, e, n => by
    have e : ((getP ρ i π).bind fun r => (kids m r).bind fun rs => rs[k]?) = some q := e
    cases e1 : getP ρ i π with
    | none => rw [e1] at e; cases e
    | some r =>
      rw [e1, Option.bind_some] at e
      cases e2 : kids m r with
      | none => rw [e2] at e; cases e
      | some rs =>
        rw [e2, Option.bind_some] at e
        obtain ⟨v, gp, z⟩ := sub_of hs h e1 (by rintro rfl; cases m <;> cases e2)
        exact sub_kid hs z e2 e
end
/-! ### a place as an expression -/
/-- r lies at the place and is no junk -/
def tP (c : Ctx) (i : Nat) (π : List (Sx × Nat)) : TE := fun σ H Q => ∃ I ρ fp r v gp, Good c I H σ ρ fp ∧ Sub c I H σ ρ fp i π r v gp ∧ Q v H
/-! ### operands -/
inductive Op where
  | e (f : EF)
  | c (x : PyData)
  | s (i : Nat)
  | p (i : Nat) (π : List (Sx × Nat))
inductive Hd where
  | t (r : R)
  | s (i : Nat)
  | p (i : Nat) (π : List (Sx × Nat))
def Op.quiet : Op → Bool
  | .e _ => false
  | _ => true
def hdOf : Op → Hd
  | .e _ => .s 0
  | .c x => .t (.d x)
  | .s i => .s i
  | .p i π => .p i π
/-- junk is nothing that one may look at -/
def isJ : R → Bool
  | .junk => true
  | _ => false
def cOps : List Op → List R → Rs (List Hd)
  | [], ρ => .ok [] ρ
  | .e f :: os, ρ => (f ρ).bind fun r ρ1 => (cOps os ρ1).bind fun hs ρ2 => .ok (.t r :: hs) ρ2
  | .c x :: os, ρ => (cOps os ρ).bind fun hs ρ2 => .ok (.t (.d x) :: hs) ρ2
  | .s i :: os, ρ => (match ρ[i]? with
      | some r => if isJ r then .no else (cOps os ρ).bind fun hs ρ2 => .ok (.s i :: hs) ρ2
      | none => .no)
  | .p i π :: os, ρ => (match getP ρ i π with
      | some r => if isJ r then .no else if os.all Op.quiet then (cOps os ρ).bind fun hs ρ2 => .ok (.p i π :: hs) ρ2 else .no
      | none => .no)
/-- an operand's reading -/
inductive TrO (c : Ctx) (E : XK) : Op → TE → Prop
  | e (f : EF) : TrO c E (.e f) (tE c E f)
  | c {x : PyData} {v : V} : (∀ I, Dp c.K I v x) → TrO c E (.c x) (tC v)
  | s (i : Nat) : TrO c E (.s i) (tVar i)
  | p (i : Nat) (π : List (Sx × Nat)) : TrO c E (.p i π) (tP c i π)
/-- handles stand for values -/
inductive HdR (c : Ctx) (I H : Hp) (σ : L2.St) (ρ : List R) (fp : List Addr) : List Hd → List V → List Addr → Prop
  | nil : HdR c I H σ ρ fp [] [] []
  | t {r : R} {v : V} {gp : List Addr} {hs : List Hd} {vs : List V} {ft : List Addr} : RepR c I H v r gp → HdR c I H σ ρ fp hs vs ft → HdR c I H σ ρ fp (.t r :: hs) (v :: vs) (gp ++ ft)
  | s {i : Nat} {v : V} {hs : List Hd} {vs : List V} {ft : List Addr} : σ[i]? = some (some v) → HdR c I H σ ρ fp hs vs ft → HdR c I H σ ρ fp (.s i :: hs) (v :: vs) ft
  | p {i : Nat} {π : List (Sx × Nat)} {r : R} {v : V} {gp : List Addr} {hs : List Hd} {vs : List V} {ft : List Addr} : Sub c I H σ ρ fp i π r v gp → HdR c I H σ ρ fp hs vs ft → HdR c I H σ ρ fp (.p i π :: hs) (v :: vs) ft
def tL : List TE → TA
  | [] => tNil
  | t :: ts => tCons t (tL ts)
section
variable {c : Ctx} {E : XK} {I H : Hp} {σ : L2.St} {ρ : List R} {fp : List Addr}
theorem HdR.own {hs : List Hd} {vs : List V} {ft : List Addr} (h : HdR c I H σ ρ fp hs vs ft) : ∀ a, a ∈ ft → OwnA I H a := by
  induction h with
  | nil => intro a ha; cases ha
  | t h1 _ ih => intro a ha; exact (List.mem_append.mp ha).elim (h1.own a) (ih a)
  | s _ _ ih => exact ih
  | p _ _ ih => exact ih
theorem ops_noex {ρ : List R} : ∀ {os : List Op}, os.all Op.quiet = true → ∀ x ρ1, cOps os ρ ≠ .ex x ρ1
  | [], _, _, _, e => by cases e
  | o :: os, q, x, ρ1, e => by
    rw [List.all_cons, Bool.and_eq_true] at q
    have hn := ops_noex (ρ := ρ) (os := os) q.2
    cases o with
    | e f => exact absurd (show false = true from q.1) Bool.false_ne_true
    | c y =>
      simp only [cOps] at e
      cases e1 : cOps os ρ with
      | no => rw [e1] at e; cases e
      | ex x ρ1 => exact hn _ _ e1
      | ok => rw [e1] at e; cases e
    | s j =>
      simp only [cOps] at e
      split at e
      · split at e
        · cases e
        · cases e1 : cOps os ρ with
          | no => rw [e1] at e; cases e
          | ex x ρ1 => exact hn _ _ e1
          | ok => rw [e1] at e; cases e
      · cases e
    | p j τ =>
      simp only [cOps] at e
      split at e
      · split at e
        · cases e
        · split at e
          · cases e1 : cOps os ρ with
            | no => rw [e1] at e; cases e
            | ex x ρ1 => exact hn _ _ e1
            | ok => rw [e1] at e; cases e
          · cases e
      · cases e
/-- quiet operands: the state stays -/
theorem ops_quiet (hsch : ∀ n, (c.sch n).Nodup) (G : Good c I H σ ρ fp) : ∀ {os : List Op} {ts : List TE}, Paired (TrO c E) os ts → os.all Op.quiet = true → ∀ {hs : List Hd} {ρ' : List R}, cOps os ρ = .ok hs ρ' → ρ' = ρ ∧ ∀ Q : List V → Hp → Prop,
    (∀ vs, HdR c I H σ ρ fp hs vs [] → Q vs H) → tL ts σ H Q
  | [], _, .nil, _, hs, ρ', e => by
    cases e
    exact ⟨rfl, fun Q h => h [] .nil⟩
  | o :: os, t :: ts, .cons ho hos, q, hs, ρ', e => by
    rw [List.all_cons, Bool.and_eq_true] at q
    cases ho with
    | e f => exact absurd (show false = true from q.1) Bool.false_ne_true
    | @c x v hx =>
      simp only [cOps] at e
      cases e1 : cOps os ρ with
      | no => rw [e1] at e; cases e
      | ex x ρ1 => rw [e1] at e; cases e
      | ok hs1 ρ1 =>
        rw [e1] at e; cases e
        obtain ⟨rfl, f⟩ := ops_quiet hsch G hos q.2 e1
        refine ⟨rfl, fun Q h => ?_⟩
        show tL ts σ H fun xs H2 => Q (v :: xs) H2
        exact f _ fun vs h1 => h _ (.t (gp := []) (.d (hx I)) h1)
    | s i =>
      simp only [cOps] at e
      cases e0 : ρ[i]? with
      | none => rw [e0] at e; cases e
      | some r =>
        rw [e0] at e
        simp only at e
        split at e
        · cases e
        · rename_i nj
          cases e1 : cOps os ρ with
          | no => rw [e1] at e; cases e
          | ex x ρ1 => rw [e1] at e; cases e
          | ok hs1 ρ1 =>
            rw [e1] at e; cases e
            obtain ⟨rfl, f⟩ := ops_quiet hsch G hos q.2 e1
            refine ⟨rfl, fun Q h => ?_⟩
            obtain ⟨v, hv⟩ := G.rep.val e0 (by rintro rfl; exact nj rfl)
            exact ⟨v, hv, f _ fun vs h1 => h _ (.s hv h1)⟩
    | p i π =>
      simp only [cOps] at e
      cases e0 : getP ρ i π with
      | none => rw [e0] at e; cases e
      | some r =>
        rw [e0] at e
        simp only at e
        split at e
        · cases e
        · rename_i nj
          rw [if_pos q.2] at e
          cases e1 : cOps os ρ with
          | no => rw [e1] at e; cases e
          | ex x ρ1 => rw [e1] at e; cases e
          | ok hs1 ρ1 =>
            rw [e1] at e; cases e
            obtain ⟨rfl, f⟩ := ops_quiet hsch G hos q.2 e1
            refine ⟨rfl, fun Q h => ?_⟩
            obtain ⟨v, gp, z⟩ := sub_of hsch G.rep e0 (by rintro rfl; exact nj rfl)
            exact ⟨I, _, fp, r, v, gp, G, z, f _ fun vs h1 => h _ (.p z h1)⟩
/-- operands, from the left; P: what is wanted of the handles -/
theorem ops_run (hsch : ∀ n, (c.sch n).Nodup) : ∀ {os : List Op} {ts : List TE}, Paired (TrO c E) os ts → ∀ {I H : Hp} {ρ : List R} {fp : List Addr} {P : List Hd → List R → Prop} {Q : List V → Hp → Prop}, Good c I H σ ρ fp → OutG c E I H fp (cOps os ρ) P →
    (∀ hs ρ', P hs ρ' → ∀ vs I' H' fp' ft, Good c I' H' σ ρ' fp' → HdR c I' H' σ ρ' fp' hs vs ft → (fp' ++ ft).Nodup → Stp fp I H (fp' ++ ft) I' H' → Q vs H') → tL ts σ H Q
  | [], _, .nil, I, H, ρ, fp, P, Q, G, o, h => h _ _ o [] I H fp [] G .nil (by simpa using G.nd) (by simpa using Stp.refl G.ih)
  | o :: os, t :: ts, .cons ho hos, I, H, ρ, fp, P, Q, G, out, h => by
    cases ho with
    | e f =>
      simp only [cOps] at out
      refine ⟨I, ρ, fp, G, out.bind.imp fun r ρ1 out1 v I1 H1 fp1 fr G1 r1 nd1 st1 => ?_⟩
      have st1' : Stp fp I H fp1 I1 H1 := st1.less fun x hx => List.mem_append_left _ hx
      refine ops_run hsch hos G1 ((out1.wx st1').bind) fun hs ρ2 p2 vs I2 H2 fp2 ft G2 hr2 nd2 st2 => ?_
      have dis : ∀ x, x ∈ fr → x ∉ fp1 := fun x hx q => (nd_app.mp nd1).2.2 x q hx
      have r2 := r1.keep (st2.kept r1.own dis)
      have ap := st2.apart r1.own dis
      refine h _ _ p2 (v :: vs) I2 H2 fp2 (fr ++ ft) G2 (.t r2 hr2) ?_ ?_
      · obtain ⟨n1, n2, n3⟩ := nd_app.mp nd2
        obtain ⟨m1, m2, m3⟩ := nd_app.mp nd1
        refine nd_app.mpr ⟨n1, nd_app.mpr ⟨m2, n2, fun x hx hf => ap x hx (List.mem_append_right _ hf)⟩, fun x hx hf => ?_⟩
        rcases List.mem_append.mp hf with z | z
        · exact ap x z (List.mem_append_left _ hx)
        · exact n3 x hx z
      · have b := st2.beside (gp := fr)
        refine (st1.trans b).less fun x hx => ?_
        simp only [List.mem_append] at hx ⊢
        rcases hx with z | z | z
        · exact .inl (.inl z)
        · exact .inr z
        · exact .inl (.inr z)
    | @c x v hx =>
      simp only [cOps] at out
      show tL ts σ H fun xs H2 => Q (v :: xs) H2
      refine ops_run hsch hos G out.bind fun hs ρ2 p2 vs I2 H2 fp2 ft G2 hr2 nd2 st2 => ?_
      exact h _ _ p2 _ I2 H2 fp2 ([] ++ ft) G2 (.t (.d (hx _)) hr2) nd2 st2
    | s i =>
      simp only [cOps] at out
      cases e0 : ρ[i]? with
      | none => rw [e0] at out; exact out.elim
      | some r =>
        rw [e0] at out
        simp only at out
        split at out
        · exact out.elim
        · rename_i nj
          obtain ⟨v, hv⟩ := G.rep.val e0 (by rintro rfl; exact nj rfl)
          refine ⟨v, hv, ?_⟩
          refine ops_run hsch hos G out.bind fun hs ρ2 p2 vs I2 H2 fp2 ft G2 hr2 nd2 st2 => ?_
          exact h _ _ p2 _ I2 H2 fp2 ft G2 (.s hv hr2) nd2 st2
    | p i π =>
      simp only [cOps] at out
      cases e0 : getP ρ i π with
      | none => rw [e0] at out; exact out.elim
      | some r =>
        rw [e0] at out
        simp only at out
        split at out
        · exact out.elim
        · rename_i nj
          split at out
          · rename_i hq
            obtain ⟨v, gp, z⟩ := sub_of hsch G.rep e0 (by rintro rfl; exact nj rfl)
            refine ⟨I, ρ, fp, r, v, gp, G, z, ?_⟩
            cases e1 : cOps os ρ with
            | no => rw [e1] at out; exact out.elim
            | ex x ρ1 => exact absurd e1 (ops_noex hq x ρ1)
            | ok hs1 ρ1 =>
              obtain ⟨rfl, f⟩ := ops_quiet hsch G hos hq e1
              rw [e1] at out
              refine f _ fun vs h1 => ?_
              exact h _ _ out _ I H fp [] G (.p z h1) (by simpa using G.nd) (by simpa using Stp.refl G.ih)
          · exact out.elim
end
end TP
set_option linter.all false
set_option maxRecDepth 100000
set_option maxHeartbeats 2000000
/-! TPd: expressions. -/
namespace TP
open PySem PySem.Spec PyProof.Rows L2
variable [TabsOf]
/-! ### what is looked at -/
def dictD (kvs : List (NestedKey × PyData)) : PyData := .dict (kvs.map fun p => (p.1.data, p.2))
def vw : R → Option PyData
  | .d x => some x
  | .ol xs => some (.list xs)
  | .dt kvs => some (dictD kvs)
  | _ => none
inductive Vw (c : Ctx) (I H : Hp) : V → PyData → Prop
  | d {v : V} {x : PyData} : Dp c.K I v x → Vw c I H v x
  | l {p : Addr} {vs : List V} {xs : List PyData} : H p = some (.lst vs) → DpAll c.K I vs xs → Vw c I H (.ref p) (.list xs)
  | t {p : Addr} {es : Ents} {kvs : List (NestedKey × PyData)} : H p = some (DX c.prog c.wo p es) → KD c.K I es kvs → Vw c I H (.ref p) (dictD kvs)
abbrev VwAll (c : Ctx) (I H : Hp) : List V → List PyData → Prop := Paired (Vw c I H)
theorem vw_of {c : Ctx} {I H : Hp} {v : V} {r : R} {gp : List Addr} {x : PyData} (h : RepR c I H v r gp) (e : vw r = some x) : Vw c I H v x := by
  cases h with
  | d h => cases e; exact .d h
  | ol h1 h2 h3 => cases e; exact .l h1 h3
  | dt h1 h2 h3 => cases e; exact .t h1 h3
  | _ => cases e
def hview (ρ : List R) : Hd → Option PyData
  | .t r => vw r
  | .s i => (ρ[i]?).bind vw
  | .p i π => (getP ρ i π).bind vw
def hviews (ρ : List R) : List Hd → Option (List PyData)
  | [] => some []
  | h :: hs => (hview ρ h).bind fun x => (hviews ρ hs).map (x :: ·)
section
variable {c : Ctx} {E : XK} {I H : Hp} {σ : L2.St} {ρ : List R} {fp : List Addr}
theorem hviews_ok (G : Good c I H σ ρ fp) : ∀ {hs : List Hd} {vs : List V} {ft : List Addr} {ds : List PyData}, HdR c I H σ ρ fp hs vs ft → hviews ρ hs = some ds → VwAll c I H vs ds
  | [], _, _, _, .nil, e => by cases e; exact .nil
  | h :: hs, v :: vs, _, ds, r, e => by
    simp only [hviews] at e
    cases e1 : hview ρ h with
    | none => rw [e1] at e; cases e
    | some x =>
      rw [e1, Option.bind_some] at e
      cases e2 : hviews ρ hs with
      | none => rw [e2] at e; cases e
      | some xs =>
        rw [e2] at e; cases e
        cases r with
        | t h1 h2 => exact .cons (vw_of h1 e1) (hviews_ok G h2 e2)
        | @s i _ _ _ _ h1 h2 =>
          refine .cons ?_ (hviews_ok G h2 e2)
          simp only [hview] at e1
          cases e3 : ρ[i]? with
          | none => rw [e3] at e1; cases e1
          | some r =>
            rw [e3, Option.bind_some] at e1
            obtain ⟨_, gp, _, _, h3, _⟩ := G.rep.at e3
            rcases h3 with rfl | ⟨v', h4, h5⟩
            · cases e1
            · rw [h1] at h4; cases h4
              exact vw_of h5 e1
        | p h1 h2 =>
          refine .cons ?_ (hviews_ok G h2 e2)
          simp only [hview] at e1
          rw [h1.get, Option.bind_some] at e1
          exact vw_of h1.rep e1
end
/-! ### operations over what is looked at -/
def NOk (c : Ctx) (k : List PyData → Option R) (rd : List V → Hp → VK → Prop) : Prop :=
  ∀ (I H : Hp) (vs : List V) (ds : List PyData) (res : R) (Q : VK), Same I H → VwAll c I H vs ds → k ds = some res →
    (∀ v I' H' fr, Stp [] I H fr I' H' → fr.Nodup → RepR c I' H' v res fr → Q v H') → rd vs H Q
def cN (k : List PyData → Option R) (os : List Op) : EF := fun ρ => (cOps os ρ).bind fun hs ρ' => match (hviews ρ' hs).bind k with
  | some r => .ok r ρ'
  | none => .no
theorem te_n {c : Ctx} {E : XK} {k : List PyData → Option R} {rd : List V → Hp → VK → Prop} {os : List Op} {ts : List TE} (hs : ∀ n, (c.sch n).Nodup) (ok : NOk c k rd) (tr : Paired (TrO c E) os ts) {σ : L2.St} {H : Hp} {Q : VK}
    (h : tE c E (cN k os) σ H Q) : tL ts σ H fun vs H2 => rd vs H2 Q := by
  obtain ⟨I, ρ, fp, G, o⟩ := h
  refine ops_run hs tr G o.bind fun hd ρ' p vs I' H' fp' ft G' hr nd st => ?_
  cases e1 : (hviews ρ' hd).bind k with
  | none => simp only [e1] at p; exact p.elim
  | some r =>
    simp only [e1] at p
    cases e2 : hviews ρ' hd with
    | none => rw [e2] at e1; cases e1
    | some ds =>
      rw [e2, Option.bind_some] at e1
      refine ok I' H' vs ds r Q G'.ih (hviews_ok G' hr e2) e1 fun v I3 H3 fr st3 nd3 r3 => ?_
      have st' : Stp fp I H fp' I' H' := st.less fun x hx => List.mem_append_left _ hx
      exact p v I3 H3 fp' fr (G'.new st3) r3 (nd_new G' st3 nd3) (st'.new st3)
def SO (X : Cx) (c : Ctx) (E : XK) (e : Expr) (o : Op) : Prop := ∃ t, PE X e t ∧ TrO c E o t
inductive SOs (X : Cx) (c : Ctx) (E : XK) : List Expr → List Op → Prop
  | nil : SOs X c E [] []
  | cons {e : Expr} {o : Op} {es : List Expr} {os : List Op} : SO X c E e o → starEach (e :: es) X.env = (false, eval e X.env) :: starEach es X.env → SOs X c E es os → SOs X c E (e :: es) (o :: os)
theorem SOs.pa {X : Cx} {c : Ctx} {E : XK} {es : List Expr} {os : List Op} (h : SOs X c E es os) : ∃ ts, PA X es (tL ts) ∧ Paired (TrO c E) os ts := by
  induction h with
  | nil => exact ⟨[], pa_nil, .nil⟩
  | cons h1 h2 _ ih =>
    obtain ⟨t, p1, r1⟩ := h1
    obtain ⟨ts, p2, r2⟩ := ih
    exact ⟨t :: ts, pa_cons p1 p2 h2, .cons r1 r2⟩
def rd2 (r : R2) : List V → Hp → VK → Prop := fun vs H Q => match vs with
  | [x, y] => r x y H Q
  | _ => False
def rd1 (r : V → Hp → VK → Prop) : List V → Hp → VK → Prop := fun vs H Q => match vs with
  | [x] => r x H Q
  | _ => False
structure CtxOk (X : Cx) (c : Ctx) : Prop where
  k : X.K = c.K
  sch : ∀ n, (c.sch n).Nodup
  pr : X.prog = c.prog
  wo : X.w = c.wo
section
variable {X : Cx} {c : Ctx} {E : XK} {a b e o : Expr} {pos : Pos} {oa ob : Op} {k : List PyData → Option R}
/-! operands -/
theorem so_e {f : EF} (h : SE X c E e f) : SO X c E e (.e f) := ⟨_, h, .e f⟩
theorem so_int {i : Int} {j} : SO X c E (.Constant (.int i) j pos) (.c (.int i)) := ⟨_, pe_int, .c fun _ => .int i⟩
theorem so_bl {i : Bool} {j} : SO X c E (.Constant (.bool i) j pos) (.c (.bool i)) := ⟨_, pe_bl, .c fun _ => .bl i⟩
theorem so_non {j} : SO X c E (.Constant .none j pos) (.c .none) := ⟨_, pe_non, .c fun _ => .non⟩
theorem so_str {i : Str} {j} : SO X c E (.Constant (.str i) j pos) (.c (.str i)) := ⟨_, pe_str, .c fun _ => .str i⟩
theorem so_var (i : Nat) {x : Str} (hN : X.N[i]? = some x := by rfl) (hv : Vis X.env.scope x := by first | exact Or.inl rfl | exact Or.inr (Or.inl rfl) | exact Or.inr (Or.inr rfl)) (hd : (x == ("__debug__" : Str)) = false := by decide)
    (hcd : (x == ("__classdict__" : Str)) = false := by decide) : SO X c E (.Name x pos) (.s i) := ⟨_, pe_var hN hv hd hcd, .s i⟩
/-- a module's constant -/
theorem so_glob {x : Str} {v : V} {u : Value} {d : PyData} (hd : ∀ I, Dp c.K I v d) (hg : Gl X x) (hm : X.mg x = some u) (r : RelV v u) (hdb : (x == ("__debug__" : Str)) = false := by decide) : SO X c E (.Name x pos) (.c d) :=
  ⟨_, pe_glob hg hm r hdb, .c hd⟩
def SP (X : Cx) (c : Ctx) (e : Expr) (i : Nat) (π : List (Sx × Nat)) : Prop := PE X e (tP c i π)
theorem so_p {i : Nat} {π : List (Sx × Nat)} (h : SP X c e i π) : SO X c E e (.p i π) := ⟨_, h, .p i π⟩
theorem sp_var (i : Nat) {x : Str} (hN : X.N[i]? = some x := by rfl) (hv : Vis X.env.scope x := by first | exact Or.inl rfl | exact Or.inr (Or.inl rfl) | exact Or.inr (Or.inr rfl)) (hd : (x == ("__debug__" : Str)) = false := by decide)
    (hcd : (x == ("__classdict__" : Str)) = false := by decide) : SP X c (.Name x pos) i [] :=
  pe_imp (pe_var hN hv hd hcd) fun σ H Q ⟨I, ρ, fp, r, v, gp, G, s, q⟩ => ⟨v, s.2.1, q⟩
/-- part k of a list, of a tuple -/
theorem sp_idx {i k' : Nat} {π : List (Sx × Nat)} {j} {p2 : Pos} (ok : CtxOk X c) (h : SP X c e i π) : SP X c (.Subscript e (.Constant (.int (k' : Int)) j p2) pos) i ((.ix, k') :: π) := by
  refine pe_imp (pe_ix (ix_list.or ix_tup) h pe_int (fun _ _ => rfl)) fun σ H Q ⟨I, ρ, fp, r, v, gp, G, s, q⟩ => ?_
  obtain ⟨r0, v0, gp0, rs, s0, hk, he, kv, _⟩ := s
  refine ⟨I, ρ, fp, r0, v0, gp0, G, s0, ?_⟩
  cases r0 with
  | on rs0 =>
    obtain ⟨p, vs, rfl, h1, h2⟩ := kv
    exact .inl ⟨p, vs, _, v, rfl, rfl, SqL.of h1, atI_nat h2, q⟩
  | tn rs0 =>
    obtain ⟨p, vs, rfl, h1, h2⟩ := kv
    exact .inr ⟨p, vs, _, v, rfl, rfl, SqT.of h1, atI_nat h2, q⟩
  | _ => cases hk
/-- a field -/
theorem sp_fld {i n k' : Nat} {π : List (Sx × Nat)} {f : Str} (ok : CtxOk X c) (h : SP X c e i π) (hf : (c.sch n)[k']? = some f) (hc : Cls c.K (c.cls n)) (hn : NoAttr c.K (c.cls n) f)
    (hb : attributeBase e f X.env (eval e X.env) = eval e X.env := by rfl) : SP X c (.Attribute e f pos) i ((.fd n, k') :: π) := by
  refine pe_imp (pe_fld h hb) fun σ H Q ⟨I, ρ, fp, r, v, gp, G, s, q⟩ => ?_
  obtain ⟨r0, v0, gp0, rs, s0, hk, he, kv, _⟩ := s
  refine ⟨I, ρ, fp, r0, v0, gp0, G, s0, ?_⟩
  cases r0 with
  | ob m rs0 =>
    have hk0 : (if m = n then some rs0 else none) = some rs := hk
    have hmn : m = n := by
      split at hk0
      · assumption
      · cases hk0
    subst hmn
    obtain ⟨p, dx, es, g, rfl, h1, h2, h3⟩ := kv
    rw [hf] at h2; cases h2
    rw [ok.k]
    exact ⟨p, _, dx, es, v, rfl, h1, hc, hn, h3, q⟩
  | _ => cases hk
/-- a written key -/
theorem sp_key {i n k' : Nat} {π : List (Sx × Nat)} {f : Str} {j} {p2 : Pos} (hu : X.A.units + 1 < cLine) (h : SP X c e i π) (hf : (c.sch n)[k']? = some f) (hs : NoSl (.Constant (.str f) j p2) := by exact fun _ _ => rfl) :
    SP X c (.Subscript e (.Constant (.str f) j p2) pos) i ((.ky n, k') :: π) := by
  refine pe_imp (pe_dget hu h pe_str hs) fun σ H Q ⟨I, ρ, fp, r, v, gp, G, s, q⟩ => ?_
  obtain ⟨r0, v0, gp0, rs, s0, hk, he, kv, _⟩ := s
  refine ⟨I, ρ, fp, r0, v0, gp0, G, s0, ?_⟩
  cases r0 with
  | dk m rs0 =>
    have hk0 : (if m = n then some rs0 else none) = some rs := hk
    have hmn : m = n := by
      split at hk0
      · assumption
      · cases hk0
    subst hmn
    obtain ⟨p, es, g, rfl, h1, h2, h3⟩ := kv
    rw [hf] at h2; cases h2
    exact ⟨p, v, rfl, by rw [← h3]; exact DGet.k (k := Sum.inr f) h1, q⟩
  | _ => cases hk
/-! ### expressions -/
/-- an expression whose reading is by its operands -/
theorem se_n {t : TE} {rd : List V → Hp → VK → Prop} {os : List Op} {ts : List TE} (ok : CtxOk X c) (hp : PE X e t) (n : NOk c k rd) (tr : Paired (TrO c E) os ts) (i : ∀ σ H Q, tL ts σ H (fun vs H2 => rd vs H2 Q) → t σ H Q) : SE X c E e (cN k os) :=
  pe_imp hp fun σ H Q h => i σ H Q (te_n ok.sch n tr h)
theorem se_const {v : V} {d : PyData} (hp : PE X e (tC v)) (hd : ∀ I, Dp c.K I v d) : SE X c E e (fun ρ => .ok (.d d) ρ) :=
  pe_imp hp fun σ H Q ⟨I, ρ, fp, G, o⟩ => o v I H fp [] G (.d (hd I)) (by simpa using G.nd) (by simpa using Stp.refl G.ih)
def cC (d : PyData) : EF := fun ρ => .ok (.d d) ρ
theorem se_int {i : Int} {j} : SE X c E (.Constant (.int i) j pos) (cC (.int i)) := se_const pe_int fun _ => .int i
theorem se_bl {i : Bool} {j} : SE X c E (.Constant (.bool i) j pos) (cC (.bool i)) := se_const pe_bl fun _ => .bl i
theorem se_non {j} : SE X c E (.Constant .none j pos) (cC .none) := se_const pe_non fun _ => .non
theorem se_str {i : Str} {j} : SE X c E (.Constant (.str i) j pos) (cC (.str i)) := se_const pe_str fun _ => .str i
theorem se_glob {x : Str} {v : V} {u : Value} {d : PyData} (hd : ∀ I, Dp c.K I v d) (hg : Gl X x) (hm : X.mg x = some u) (r : RelV v u) (hdb : (x == ("__debug__" : Str)) = false := by decide) : SE X c E (.Name x pos) (cC d) :=
  se_const (pe_glob hg hm r hdb) hd
/-- a name: its data; what it owned is frozen -/
def cVar (i : Nat) : EF := fun ρ => match (ρ[i]?).bind toD with
  | some x => .ok (.d x) (ρ.set i (.d x))
  | none => .no
theorem se_var (i : Nat) {x : Str} (hN : X.N[i]? = some x := by rfl) (hv : Vis X.env.scope x := by first | exact Or.inl rfl | exact Or.inr (Or.inl rfl) | exact Or.inr (Or.inr rfl)) (hd : (x == ("__debug__" : Str)) = false := by decide)
    (hcd : (x == ("__classdict__" : Str)) = false := by decide) : SE X c E (.Name x pos) (cVar i) := by
  refine pe_imp (pe_var hN hv hd hcd) fun σ H Q ⟨I, ρ, fp, G, o⟩ => ?_
  unfold cVar at o
  cases e1 : ρ[i]? with
  | none => rw [e1] at o; exact o.elim
  | some r =>
    rw [e1] at o
    cases e2 : toD r with
    | none => simp only [Option.bind_some, e2] at o; exact o.elim
    | some x =>
      simp only [Option.bind_some, e2] at o
      obtain ⟨pre, gp, post, e3, h3, f⟩ := G.rep.at e1
      rcases h3 with rfl | ⟨v, hv, hr⟩
      · cases e2
      refine ⟨v, hv, ?_⟩
      have own := G.rep.own
      have nd := G.nd
      rw [e3] at nd
      have dis : ∀ a, a ∈ pre ++ post → a ∉ gp := fun a ha hg => by
        simp only [List.append_assoc] at nd
        rcases List.mem_append.mp ha with z | z
        · exact (nd_app.mp nd).2.2 a z (List.mem_append_left _ hg)
        · exact (nd_app.mp (nd_app.mp nd).2.1).2.2 a hg z
      have kp : Kp (pre ++ post) I H (TP.frz I H gp) H := ⟨frz_ii G.ih, fun a ha => ⟨rfl, frz_none (own a (by rw [e3]; simp at ha ⊢; rcases ha with z | z <;> simp [z])) (dis a ha)⟩, fun _ _ z => z⟩
      have dp := hr.frz G.ih e2
      have z := f (TP.frz I H gp) H (some v) (.d x) [] kp (.inr ⟨v, rfl, .d dp⟩)
      rw [set_self hv] at z
      have nd2 : (pre ++ [] ++ post).Nodup := by
        simp only [List.append_nil]
        simp only [List.append_assoc] at nd
        obtain ⟨n1, n2, n3⟩ := nd_app.mp nd
        exact nd_app.mpr ⟨n1, (nd_app.mp n2).2.1, fun a ha hb => n3 a ha (List.mem_append_right _ hb)⟩
      refine o v (TP.frz I H gp) H (pre ++ [] ++ post) [] ⟨frz_ih G.ih, z, nd2, G.par, G.tb⟩ (.d dp) (by simpa using nd2) ?_
      refine ((Stp.refl (fp := fp) G.ih).trans ((frz_stp (fp := gp) G.ih).more (gp := fp) fun a ha => by rw [e3]; simp [ha])).more (fun _ h => h) |> fun st => ⟨st.ii, st.ih, st.kp, st.tp, fun a ha => ?_, st.fz, st.tl, st.tb⟩
      simp at ha
      exact .inl (by rw [e3]; rcases ha with z | z <;> simp [z])
/-- a name at the end of its life: what it owned is handed on (data stay) -/
def cMv (i : Nat) : EF := fun ρ => match ρ[i]? with
  | some (.d x) => .ok (.d x) ρ
  | some r => if isJ r then .no else .ok r (ρ.set i .junk)
  | none => .no
theorem cMv_of {i : Nat} {ρ : List R} {r : R} (e : ρ[i]? = some r) (n : ∀ x, r ≠ .d x) : cMv i ρ = if isJ r then .no else .ok r (ρ.set i .junk) := by
  unfold cMv
  rw [e]
  cases r with
  | d x => exact absurd rfl (n x)
  | _ => rfl
theorem se_mv (i : Nat) {x : Str} (hN : X.N[i]? = some x := by rfl) (hv : Vis X.env.scope x := by first | exact Or.inl rfl | exact Or.inr (Or.inl rfl) | exact Or.inr (Or.inr rfl)) (hd : (x == ("__debug__" : Str)) = false := by decide)
    (hcd : (x == ("__classdict__" : Str)) = false := by decide) : SE X c E (.Name x pos) (cMv i) := by
  refine pe_imp (pe_var hN hv hd hcd) fun σ H Q ⟨I, ρ, fp, G, o⟩ => ?_
  cases e1 : ρ[i]? with
  | none => unfold cMv at o; rw [e1] at o; exact o.elim
  | some r =>
    by_cases hd : ∃ x, r = .d x
    · obtain ⟨x, rfl⟩ := hd
      unfold cMv at o
      rw [e1] at o
      obtain ⟨_, gp, _, _, h3, _⟩ := G.rep.at e1
      rcases h3 with z | ⟨v, hv, hr⟩
      · cases z
      · cases hr with
        | d hr => exact ⟨v, hv, o v I H fp [] G (.d hr) (by simpa using G.nd) (by simpa using Stp.refl G.ih)⟩
    rw [cMv_of e1 fun x z => hd ⟨x, z⟩] at o
    split at o
    · exact o.elim
    · rename_i nj
      obtain ⟨pre, gp, post, e3, h3, f⟩ := G.rep.at e1
      rcases h3 with rfl | ⟨v, hv, hr⟩
      · exact absurd rfl nj
      refine ⟨v, hv, ?_⟩
      have z := f I H (some v) .junk [] ⟨Same.refl _, fun a ha => ⟨rfl, (G.rep.own a (by rw [e3]; simp at ha ⊢; rcases ha with z | z <;> simp [z])).1⟩, fun _ _ z => z⟩ (.inl ⟨rfl, rfl⟩)
      rw [set_self hv] at z
      have nd := G.nd
      rw [e3] at nd
      simp only [List.append_assoc] at nd
      obtain ⟨n1, n2, n3⟩ := nd_app.mp nd
      obtain ⟨m1, m2, m3⟩ := nd_app.mp n2
      have nd2 : (pre ++ [] ++ post).Nodup := by
        simp only [List.append_nil]
        exact nd_app.mpr ⟨n1, m2, fun a ha hb => n3 a ha (List.mem_append_right _ hb)⟩
      refine o v I H (pre ++ [] ++ post) gp ⟨G.ih, z, nd2, G.par, G.tb⟩ hr ?_ ?_
      · simp only [List.append_nil]
        refine nd_app.mpr ⟨by simpa using nd2, m1, fun a ha hb => ?_⟩
        rcases List.mem_append.mp ha with z | z
        · exact n3 a z (List.mem_append_left _ hb)
        · exact m3 a hb z
      · refine (Stp.refl (fp := fp) G.ih).less fun a ha => ?_
        rw [e3]
        simp at ha ⊢
        rcases ha with z | z | z <;> simp [z]
/-- data at a place -/
def cGet (i : Nat) (π : List (Sx × Nat)) : EF := fun ρ => match getP ρ i π with
  | some (.d x) => .ok (.d x) ρ
  | _ => .no
theorem se_get {i : Nat} {π : List (Sx × Nat)} (ok : CtxOk X c) (h : SP X c e i π) : SE X c E e (cGet i π) := by
  refine pe_imp h fun σ H Q ⟨I, ρ, fp, G, o⟩ => ?_
  unfold cGet at o
  split at o
  · rename_i x e1
    obtain ⟨v, gp, s⟩ := sub_of ok.sch G.rep e1 (by intro z; cases z)
    refine ⟨I, ρ, fp, _, v, gp, G, s, o v I H fp [] G ?_ (by simpa using G.nd) (by simpa using Stp.refl G.ih)⟩
    have z := s.rep
    cases z with
    | d hd => exact .d hd
  · exact o.elim
end
end TP
set_option linter.all false
set_option maxRecDepth 100000
set_option maxHeartbeats 2000000
/-! TPe: tests, displays, calls. -/
namespace TP
open PySem PySem.Spec PyProof.Rows L2
variable [TabsOf]
section
variable {X : Cx} {c : Ctx} {E : XK} {a b e o : Expr} {pos : Pos} {oa ob : Op} {k : List PyData → Option R} {f g h : EF} {tf tg : TF} {rest : List Expr}
/-! ### tests -/
def asB : R → List R → Rs Bool
  | .d (.bool b), ρ => .ok b ρ
  | _, _ => .no
/-- the truth of a bool -/
def cTb (f : EF) : TF := fun ρ => (f ρ).bind asB
theorem rep_b {I H : Hp} {v : V} {b : Bool} {gp : List Addr} (h : RepR c I H v (.d (.bool b)) gp) : v = .bl b ∧ gp = [] := by
  cases h with | d h => cases h; exact ⟨rfl, rfl⟩
theorem rep_i {I H : Hp} {v : V} {i : Int} {gp : List Addr} (h : RepR c I H v (.d (.int i)) gp) : v = .int i ∧ gp = [] := by
  cases h with | d h => cases h; exact ⟨rfl, rfl⟩
theorem tb_te {σ : L2.St} {H : Hp} {Q : Bool → Hp → Prop} (h : tT c E (cTb f) σ H Q) : tE c E f σ H fun x H' => ∃ k, x = .bl k ∧ Q k H' := by
  obtain ⟨I, ρ, fp, G, o⟩ := h
  refine ⟨I, ρ, fp, G, OutG.imp (OutG.bind o) fun r ρ1 o1 v I1 H1 fp1 fr G1 r1 nd st => ?_⟩
  cases r with
  | d x =>
    cases x with
    | bool b =>
      obtain ⟨rfl, rfl⟩ := rep_b r1
      exact ⟨b, rfl, o1 I1 H1 fp1 G1 (by simpa using st)⟩
    | _ => exact o1.elim
  | _ => exact o1.elim
theorem st_val (hp : SE X c E e f) (he : ∀ whole, isTrue e X.env whole = (do let v ← whole; standAt e.pos; holding [v] (truthy v)) := by intro _; rfl) : ST X c E e (cTb f) :=
  pt_imp (pt_val hp he) fun _ _ _ h => tb_te h
/-- a comparison by its operands, as a test -/
theorem st_cmp {op : CmpOp} {r : R2} (ok : CtxOk X c) (ho : OpR X (compareOp op) r) (n : NOk c k (rd2 r)) (sa : SO X c E a oa) (sb : SO X c E b ob) (hm : behindInMarks op b = false) : ST X c E (.Compare a [op] [b] pos) (cTb (cN k [oa, ob])) := by
  obtain ⟨ta, pa, ra⟩ := sa
  obtain ⟨tb, pb, rb⟩ := sb
  refine pt_imp (pt_cmpR ho pa pb hm) fun σ H Q h => ?_
  exact te_n (ts := [ta, tb]) ok.sch n (.cons ra (.cons rb .nil)) (tb_te h)
theorem se_cmp {op : CmpOp} {r : R2} (ok : CtxOk X c) (ho : OpR X (compareOp op) r) (n : NOk c k (rd2 r)) (sa : SO X c E a oa) (sb : SO X c E b ob) (hm : behindInMarks op b = false) : SE X c E (.Compare a [op] [b] pos) (cN k [oa, ob]) := by
  obtain ⟨ta, pa, ra⟩ := sa
  obtain ⟨tb, pb, rb⟩ := sb
  refine pe_imp (pe_cmpR ho pa pb hm) fun σ H Q h => ?_
  exact te_n (ts := [ta, tb]) ok.sch n (.cons ra (.cons rb .nil)) h
theorem se_bin {op : Operator} {r : R2} (ok : CtxOk X c) (ho : OpR X (binaryOp op) r) (n : NOk c k (rd2 r)) (sa : SO X c E a oa) (sb : SO X c E b ob) : SE X c E (.BinOp a op b pos) (cN k [oa, ob]) := by
  obtain ⟨ta, pa, ra⟩ := sa
  obtain ⟨tb, pb, rb⟩ := sb
  refine pe_imp (pe_op ho pa pb) fun σ H Q h => ?_
  exact te_n (ts := [ta, tb]) ok.sch n (.cons ra (.cons rb .nil)) h
theorem se_un {op : UnaryOp} {r : V → Hp → VK → Prop} (ok : CtxOk X c) (ho : UnR X (unaryOp op) r) (n : NOk c k (rd1 r)) (sa : SO X c E a oa) : SE X c E (.UnaryOp op a pos) (cN k [oa]) := by
  obtain ⟨ta, pa, ra⟩ := sa
  refine pe_imp (pe_un ho pa) fun σ H Q h => ?_
  exact te_n (ts := [ta]) ok.sch n (.cons ra .nil) h
theorem se_ix {r : R2} (ok : CtxOk X c) (hr : IxR X r) (n : NOk c k (rd2 r)) (sa : SO X c E a oa) (sb : SO X c E b ob) (hs : PlainIx b := by exact fun _ _ => rfl) : SE X c E (.Subscript a b pos) (cN k [oa, ob]) := by
  obtain ⟨ta, pa, ra⟩ := sa
  obtain ⟨tb, pb, rb⟩ := sb
  refine pe_imp (pe_ix hr pa pb hs) fun σ H Q h => ?_
  exact te_n (ts := [ta, tb]) ok.sch n (.cons ra (.cons rb .nil)) h
def SW (X : Cx) (c : Ctx) (E : XK) (e : Expr) (f : TF) : Prop := PW X e (tT c E f)
theorem pw_imp {X : Cx} {e : Expr} {t t' : TT} (h : PW X e t) (i : ∀ σ H Q, t' σ H Q → t σ H Q) : PW X e t' := ⟨fun w pins s σ H Q I q => h.run w pins s σ H Q I (i σ H Q q)⟩
def fAnd (f g : TF) : TF := fun ρ => (f ρ).bind fun b ρ1 => if b = true then g ρ1 else .ok false ρ1
def fOr (f g : TF) : TF := fun ρ => (f ρ).bind fun b ρ1 => if b = true then .ok true ρ1 else g ρ1
def fNot (f : TF) : TF := fun ρ => (f ρ).bind fun b ρ1 => .ok (!b) ρ1
theorem st_w (h : SW X c E e tf) : ST X c E e tf := PW.pt h
theorem sw_and1 (ha : ST X c E a tf) : SW X c E (.BoolOp .And [a] pos) tf := pw_and1 ha
theorem sw_or1 (ha : ST X c E a tf) : SW X c E (.BoolOp .Or [a] pos) tf := pw_or1 ha
theorem sw_and (ha : ST X c E a tf) (hb : SW X c E (.BoolOp .And (b :: rest) pos) tg) : SW X c E (.BoolOp .And (a :: b :: rest) pos) (fAnd tf tg) := by
  refine pw_imp (pw_and ha hb) fun σ H Q ⟨I, ρ, fp, G, o⟩ => ⟨I, ρ, fp, G, OutG.imp (OutG.bind o) fun b ρ1 o1 I1 H1 fp1 G1 st => ?_⟩
  show if b = true then _ else _
  split at o1
  · rename_i z
    rw [if_pos z]
    exact ⟨I1, ρ1, fp1, G1, (o1.wx st).imp fun b2 ρ2 p I2 H2 fp2 G2 st2 => p I2 H2 fp2 G2 (st.trans st2)⟩
  · rename_i z
    rw [if_neg z]
    exact o1 I1 H1 fp1 G1 st
theorem sw_or (ha : ST X c E a tf) (hb : SW X c E (.BoolOp .Or (b :: rest) pos) tg) : SW X c E (.BoolOp .Or (a :: b :: rest) pos) (fOr tf tg) := by
  refine pw_imp (pw_or ha hb) fun σ H Q ⟨I, ρ, fp, G, o⟩ => ⟨I, ρ, fp, G, OutG.imp (OutG.bind o) fun b ρ1 o1 I1 H1 fp1 G1 st => ?_⟩
  show if b = true then _ else _
  split at o1
  · rename_i z
    rw [if_pos z]
    exact o1 I1 H1 fp1 G1 st
  · rename_i z
    rw [if_neg z]
    exact ⟨I1, ρ1, fp1, G1, (o1.wx st).imp fun b2 ρ2 p I2 H2 fp2 G2 st2 => p I2 H2 fp2 G2 (st.trans st2)⟩
theorem st_not (ha : ST X c E a tf) : ST X c E (.UnaryOp .Not a pos) (fNot tf) :=
  pt_imp (pt_not ha) fun σ H Q ⟨I, ρ, fp, G, o⟩ => ⟨I, ρ, fp, G, OutG.imp (OutG.bind o) fun _ _ o1 => o1⟩
/-! .. as values -/
def cB (b : Bool) : R := .d (.bool b)
def cAnd (f g : EF) : EF := fun ρ => (f ρ).bind fun r ρ1 => (asB r ρ1).bind fun b ρ2 => if b = true then g ρ2 else .ok (.d (.bool false)) ρ2
def cOr (f g : EF) : EF := fun ρ => (f ρ).bind fun r ρ1 => (asB r ρ1).bind fun b ρ2 => if b = true then .ok (.d (.bool true)) ρ2 else g ρ2
def cNot (f : EF) : EF := fun ρ => (f ρ).bind fun r ρ1 => (asB r ρ1).bind fun b ρ2 => .ok (.d (.bool (!b))) ρ2
theorem se_one {op} (ha : SE X c E a f) : SE X c E (.BoolOp op [a] pos) f := pe_one ha
theorem asB_of {r : R} {ρ : List R} {I H : Hp} {fp : List Addr} {P : R → List R → Prop} {k : Bool → List R → Rs R} (o : OutG c E I H fp ((asB r ρ).bind k) P) : ∃ b, r = .d (.bool b) ∧ OutG c E I H fp (k b ρ) P := by
  cases r with
  | d x =>
    cases x with
    | bool b => exact ⟨b, rfl, o⟩
    | _ => exact o.elim
  | _ => exact o.elim
theorem bl_post {b : Bool} {ρ1 : List R} {I H I1 H1 : Hp} {fp fp1 : List Addr} {σ : L2.St} {Q : VK} (p : PostE c I H fp σ Q (.d (.bool b)) ρ1) (G1 : Good c I1 H1 σ ρ1 fp1) (st : Stp fp I H fp1 I1 H1) : Q (.bl b) H1 :=
  p _ I1 H1 fp1 [] G1 (.d (.bl b)) (by simpa using G1.nd) (by simpa using st)
theorem se_and (ha : SE X c E a f) (hb : SE X c E (.BoolOp .And (b :: rest) pos) g) : SE X c E (.BoolOp .And (a :: b :: rest) pos) (cAnd f g) := by
  refine pe_imp (pe_and ha hb) fun σ H Q ⟨I, ρ, fp, G, o⟩ => ⟨I, ρ, fp, G, OutG.imp (OutG.bind o) fun r ρ1 o1 v I1 H1 fp1 fr G1 r1 nd st => ?_⟩
  obtain ⟨b, rfl, o2⟩ := asB_of o1
  obtain ⟨rfl, rfl⟩ := rep_b r1
  rw [List.append_nil] at st
  refine ⟨b, rfl, ?_⟩
  cases b with
  | true => exact ⟨I1, ρ1, fp1, G1, (o2.wx st).imp fun r2 ρ2 p v2 I2 H2 fp2 fr2 G2 r3 nd2 st2 => p v2 I2 H2 fp2 fr2 G2 r3 nd2 (st.trans st2)⟩
  | false => exact bl_post o2 G1 st
theorem se_or (ha : SE X c E a f) (hb : SE X c E (.BoolOp .Or (b :: rest) pos) g) : SE X c E (.BoolOp .Or (a :: b :: rest) pos) (cOr f g) := by
  refine pe_imp (pe_or ha hb) fun σ H Q ⟨I, ρ, fp, G, o⟩ => ⟨I, ρ, fp, G, OutG.imp (OutG.bind o) fun r ρ1 o1 v I1 H1 fp1 fr G1 r1 nd st => ?_⟩
  obtain ⟨b, rfl, o2⟩ := asB_of o1
  obtain ⟨rfl, rfl⟩ := rep_b r1
  rw [List.append_nil] at st
  refine ⟨b, rfl, ?_⟩
  cases b with
  | false => exact ⟨I1, ρ1, fp1, G1, (o2.wx st).imp fun r2 ρ2 p v2 I2 H2 fp2 fr2 G2 r3 nd2 st2 => p v2 I2 H2 fp2 fr2 G2 r3 nd2 (st.trans st2)⟩
  | true => exact bl_post o2 G1 st
theorem se_not (ha : SE X c E a f) : SE X c E (.UnaryOp .Not a pos) (cNot f) := by
  refine pe_imp (pe_not ha) fun σ H Q ⟨I, ρ, fp, G, o⟩ => ⟨I, ρ, fp, G, OutG.imp (OutG.bind o) fun r ρ1 o1 v I1 H1 fp1 fr G1 r1 nd st => ?_⟩
  obtain ⟨b, rfl, o2⟩ := asB_of o1
  obtain ⟨rfl, rfl⟩ := rep_b r1
  rw [List.append_nil] at st
  exact ⟨b, rfl, bl_post o2 G1 st⟩
/-- a if t else b -/
def cIf (t : TF) (f g : EF) : EF := fun ρ => (t ρ).bind fun b ρ1 => if b = true then f ρ1 else g ρ1
theorem se_if {t : Expr} (ht : ST X c E t tf) (ha : SE X c E a f) (hb : SE X c E b g) : SE X c E (.IfExp t a b pos) (cIf tf f g) := by
  refine pe_imp (pe_ifExp ht ha hb) fun σ H Q ⟨I, ρ, fp, G, o⟩ => ⟨I, ρ, fp, G, OutG.imp (OutG.bind o) fun b ρ1 o1 I1 H1 fp1 G1 st => ?_⟩
  cases b with
  | true => exact ⟨I1, ρ1, fp1, G1, (OutG.wx o1 st).imp fun r2 ρ2 p v2 I2 H2 fp2 fr2 G2 r3 nd2 st2 => p v2 I2 H2 fp2 fr2 G2 r3 nd2 (st.trans st2)⟩
  | false => exact ⟨I1, ρ1, fp1, G1, (OutG.wx o1 st).imp fun r2 ρ2 p v2 I2 H2 fp2 fr2 G2 r3 nd2 st2 => p v2 I2 H2 fp2 fr2 G2 r3 nd2 (st.trans st2)⟩
/-! ### two comparisons of ints in a row -/
def asI {α : Type} (r : R) (ρ : List R) (k : Int → List R → Rs α) : Rs α := match r with
  | .d (.int i) => k i ρ
  | _ => .no
def cChain (p p' : Int → Int → Bool) (f g h : EF) : EF := fun ρ => (f ρ).bind fun r ρ1 => asI r ρ1 fun i ρ1 => (g ρ1).bind fun r2 ρ2 => asI r2 ρ2 fun j ρ2 =>
  if p i j = true then (h ρ2).bind fun r3 ρ3 => asI r3 ρ3 fun l ρ3 => .ok (.d (.bool (p' j l))) ρ3 else .ok (.d (.bool false)) ρ2
theorem asI_of {α : Type} {r : R} {ρ : List R} {I H : Hp} {fp : List Addr} {P : α → List R → Prop} {k : Int → List R → Rs α} (o : OutG c E I H fp (asI r ρ k) P) : ∃ i, r = .d (.int i) ∧ OutG c E I H fp (k i ρ) P := by
  cases r with
  | d x =>
    cases x with
    | int b => exact ⟨b, rfl, o⟩
    | _ => exact o.elim
  | _ => exact o.elim
theorem te_int {k : Int → List R → Rs R} {σ : L2.St} {H : Hp} {Q : VK} {I : Hp} {ρ : List R} {fp : List Addr} {P : R → List R → Prop} (G : Good c I H σ ρ fp) (o : OutG c E I H fp ((f ρ).bind fun r ρ1 => asI r ρ1 k) P)
    (h : ∀ i ρ1 I1 H1 fp1, Good c I1 H1 σ ρ1 fp1 → Stp fp I H fp1 I1 H1 → OutG c E I1 H1 fp1 (k i ρ1) P → Q (.int i) H1) : tE c E f σ H Q := by
  refine ⟨I, ρ, fp, G, OutG.imp (OutG.bind o) fun r ρ1 o1 v I1 H1 fp1 fr G1 r1 nd st => ?_⟩
  obtain ⟨i, rfl, o2⟩ := asI_of o1
  obtain ⟨rfl, rfl⟩ := rep_i r1
  rw [List.append_nil] at st
  exact h i ρ1 I1 H1 fp1 G1 st (o2.wx st)
theorem chain_i {p p' : Int → Int → Bool} {σ : L2.St} {H : Hp} {Q : VK} (hh : tE c E (cChain p p' f g h) σ H Q) : tChain (rI0 fun i j => .bl (p i j)) (rI0 fun i j => .bl (p' i j)) (tE c E f) (tE c E g) (tE c E h) σ H Q := by
  obtain ⟨I, ρ, fp, G, o⟩ := hh
  refine te_int G o fun i ρ1 I1 H1 fp1 G1 st1 o1 => ?_
  refine te_int G1 o1 fun j ρ2 I2 H2 fp2 G2 st2 o2 => ⟨i, j, rfl, rfl, p i j, rfl, ?_⟩
  split at o2
  · rename_i z
    rw [if_pos z]
    refine te_int G2 o2 fun l ρ3 I3 H3 fp3 G3 st3 o3 => ⟨j, l, rfl, rfl, ?_⟩
    exact bl_post o3 G3 ((st1.trans st2).trans st3)
  · rename_i z
    rw [if_neg z]
    exact bl_post o2 G2 (st1.trans st2)
theorem se_chain {op op' : CmpOp} {p p' : Int → Int → Bool} {d : Expr} (ho : OpR X (compareOp op) (rI0 fun i j => .bl (p i j))) (ho' : OpR X (compareOp op') (rI0 fun i j => .bl (p' i j))) (ha : SE X c E a f) (hb : SE X c E b g) (hd : SE X c E d h)
    (hm : lastMarks [op, op'] [b, d] = false := by with_unfolding_all rfl) : SE X c E (.Compare a [op, op'] [b, d] pos) (cChain p p' f g h) := by
  refine pe_imp (pe_chain ho ho' ha hb hd hm) fun σ H Q hh => chain_i hh
theorem st_chain {op op' : CmpOp} {p p' : Int → Int → Bool} {d : Expr} (ho : OpR X (compareOp op) (rI0 fun i j => .bl (p i j))) (ho' : OpR X (compareOp op') (rI0 fun i j => .bl (p' i j))) (ha : SE X c E a f) (hb : SE X c E b g) (hd : SE X c E d h)
    (hm : lastMarks [op, op'] [b, d] = false := by with_unfolding_all rfl) : ST X c E (.Compare a [op, op'] [b, d] pos) (cTb (cChain p p' f g h)) := by
  refine pt_imp (pt_chain ho ho' ha hb hd hm) fun σ H Q hh => chain_i (tb_te hh)
end
end TP
set_option linter.all false
set_option maxRecDepth 100000
set_option maxHeartbeats 2000000
/-! TPf: displays, calls. -/
namespace TP
open PySem PySem.Spec PyProof.Rows L2
variable [TabsOf]
/-! ### displays -/
/-- the parts of a display: values alone -/
def hdRs : List Hd → Option (List R)
  | [] => some []
  | .t r :: hs => (hdRs hs).map (r :: ·)
  | _ => none
def allD : List R → Option (List PyData)
  | [] => some []
  | .d x :: rs => (allD rs).map (x :: ·)
  | _ => none
def mkT (rs : List R) : R := match allD rs with
  | some ds => .d (.tuple ds)
  | none => .tn rs
def mkL (rs : List R) : R := match allD rs with
  | some ds => .ol ds
  | none => .on rs
def cTup (os : List Op) : EF := fun ρ => (cOps os ρ).bind fun hs ρ' => match hdRs hs with
  | some rs => if rs.length ≤ 1000 then .ok (mkT rs) ρ' else .no
  | none => .no
def cLst (os : List Op) : EF := fun ρ => (cOps os ρ).bind fun hs ρ' => match hdRs hs with
  | some rs => if rs.length ≤ 1000 then .ok (mkL rs) ρ' else .no
  | none => .no
section
variable {c : Ctx} {E : XK} {I H : Hp} {σ : L2.St} {ρ : List R} {fp : List Addr}
theorem hdRs_ok : ∀ {hs : List Hd} {vs : List V} {ft : List Addr} {rs : List R}, HdR c I H σ ρ fp hs vs ft → hdRs hs = some rs → RepRs c I H vs rs ft
  | [], _, _, _, .nil, e => by cases e; exact .nil
  | .t r :: hs, _, _, rs, .t h1 h2, e => by
    simp only [hdRs] at e
    cases e2 : hdRs hs with
    | none => rw [e2] at e; cases e
    | some rs' =>
      rw [e2] at e; cases e
      exact .cons h1 (hdRs_ok h2 e2)
  | .s _ :: _, _, _, _, _, e => by cases e
  | .p _ _ :: _, _, _, _, _, e => by cases e
theorem allD_ok : ∀ {rs : List R} {vs : List V} {ft : List Addr} {ds : List PyData}, RepRs c I H vs rs ft → allD rs = some ds → DpAll c.K I vs ds ∧ ft = []
  | [], _, _, _, .nil, e => by cases e; exact ⟨.nil, rfl⟩
  | .d x :: rs, _, _, ds, h, e => by
    cases h with
    | cons h1 h2 =>
      simp only [allD] at e
      cases e2 : allD rs with
      | none => rw [e2] at e; cases e
      | some ds' =>
        rw [e2] at e; cases e
        obtain ⟨z1, rfl⟩ := allD_ok h2 e2
        cases h1 with
        | d h1 => exact ⟨.cons h1 z1, rfl⟩
  | .ol _ :: _, _, _, _, _, e => by cases e
  | .on _ :: _, _, _, _, _, e => by cases e
  | .tn _ :: _, _, _, _, _, e => by cases e
  | .dt _ :: _, _, _, _, _, e => by cases e
  | .dk _ _ :: _, _, _, _, _, e => by cases e
  | .ob _ _ :: _, _, _, _, _, e => by cases e
  | .junk :: _, _, _, _, _, e => by cases e
theorem same_newL {p : Addr} {o : HO} (h : H p = none) : L2.Same H (upd H p o) := fun b x e => by
  rw [upd_ne (ne_of_none e h)]; exact e
theorem same_new {p : Addr} {o : HO} (h : H p = none) : Same H (upd H p o) := .of (same_newL h)
theorem Same.upd {p : Addr} {o : HO} (ih : Same I H) : Same (upd I p o) (upd H p o) := ⟨fun a x e n => by
    by_cases ha : a = p
    · subst ha; rw [upd_same] at e; rw [upd_same]; exact e
    · rw [upd_ne ha] at e; rw [upd_ne ha]; exact ih.o _ _ e n, fun a ps e => by
    by_cases ha : a = p
    · subst ha; rw [upd_same] at e; rw [upd_same]; exact ⟨ps, e⟩
    · rw [upd_ne ha] at e; rw [upd_ne ha]; exact ih.t _ _ e⟩
theorem stp_new {p : Addr} {o : HO} (ih : Same I H) (h : H p = none) : Stp [] I H [p] I (upd H p o) :=
  Stp.ofSame (Same.refl _) (ih.trans (same_new h)) (same_newL h) (fun a ha => by rw [List.mem_singleton.mp ha]; exact .inr h) fun _ h1 h2 => absurd h1 h2
theorem stp_newD {p : Addr} {o : HO} (ih : Same I H) (h : H p = none) : Stp [] I H [] (upd I p o) (upd H p o) :=
  Stp.ofSame (same_new (ih.free h)) ih.upd (same_newL h) (fun a ha => by cases ha) fun a h1 h2 => by
    by_cases ha : a = p
    · subst ha; exact .inr (.inl h)
    · rw [upd_ne ha] at h2; exact absurd h1 h2
theorem le_line {n : Nat} (h : n ≤ 1000) : n ≤ sizeLine := Nat.le_trans h (by decide)
theorem lt_line {n : Nat} (h : n < 100000) : n < sizeLine := Nat.lt_of_lt_of_le h (by decide)
theorem le_line' {n : Nat} (h : n ≤ 100000) : n ≤ sizeLine := Nat.le_trans h (by decide)
theorem nd_sub {a b : List Addr} {x : Addr} (G : Good c I H σ ρ fp) (h : H x = none) : (fp ++ [x]).Nodup :=
  nd_app.mpr ⟨G.nd, by simp, fun a ha hx => by
    rw [List.mem_singleton] at hx
    subst hx
    obtain ⟨_, o, e, _⟩ := G.rep.own a ha
    rw [h] at e; cases e⟩
variable {X : Cx} {es : List Expr} {os : List Op} {pos : Pos}
theorem disp_run (hs : ∀ n, (c.sch n).Nodup) {ts : List TE} (tr : Paired (TrO c E) os ts) {σ : L2.St} {H : Hp} {Q : VK} {mk : List R → R} {mo : List V → HO} (hmo : ∀ vs zs, mo vs ≠ .tup zs ∨ mo vs = .tup vs)
    (hd : ∀ (I H : Hp) (vs : List V) (rs : List R) (ft : List Addr) (p : Addr), Same I H → RepRs c I H vs rs ft → H p = none → ft.Nodup →
      ∃ I' fr, Stp ft I H fr I' (upd H p (mo vs)) ∧ fr.Nodup ∧ RepR c I' (upd H p (mo vs)) (.ref p) (mk rs) fr)
    (h : ∃ I ρ fp, Good c I H σ ρ fp ∧ OutG c E I H fp ((cOps os ρ).bind fun hs ρ' => match hdRs hs with
      | some rs => if rs.length ≤ 1000 then .ok (mk rs) ρ' else .no
      | none => .no) (PostE c I H fp σ Q)) : tL ts σ H fun vs H1 => vs.length ≤ sizeLine ∧ ∀ p, H1 p = none → Q (.ref p) (upd H1 p (mo vs)) := by
  obtain ⟨I, ρ, fp, G, o⟩ := h
  refine ops_run hs tr G o.bind fun hd' ρ' p vs I' H' fp' ft G' hr nd st => ?_
  cases e1 : hdRs hd' with
  | none => simp only [e1] at p; exact p.elim
  | some rs =>
    simp only [e1] at p
    split at p
    · rename_i hl
      have hrs := hdRs_ok hr e1
      refine ⟨le_line (by rw [hrs.len]; exact hl), fun q hq => ?_⟩
      obtain ⟨n1, n2, n3⟩ := nd_app.mp nd
      obtain ⟨I2, fr, st2, ndr, rr⟩ := hd I' H' vs rs ft q G'.ih hrs hq n2
      have dis : ∀ x, x ∈ fp' → x ∉ ft := n3
      have kp := st2.kept G'.rep.own dis
      have ap := st2.apart G'.rep.own dis
      have G2 : Good c I2 (upd H' q (mo vs)) σ ρ' fp' := ⟨st2.ih, G'.rep.keep kp, G'.nd, G'.par, st2.tb G'.tb⟩
      refine p (.ref q) I2 _ fp' fr G2 rr (nd_app.mpr ⟨n1, ndr, ap⟩) ?_
      have b := st2.beside (gp := fp')
      refine (st.trans (b.more fun x hx => ?_)).less fun x hx => ?_
      · simp only [List.mem_append] at hx ⊢
        rcases hx with z | z
        · exact .inr z
        · exact .inl z
      · simp only [List.mem_append] at hx ⊢
        rcases hx with z | z
        · exact .inr z
        · exact .inl z
    · exact p.elim
theorem se_tup {x1} (ok : CtxOk X c) (h : SOs X c E es os) : SE X c E (.Tuple es x1 pos) (cTup os) := by
  obtain ⟨ts, pa, tr⟩ := h.pa
  refine pe_imp (pe_tup pa) fun σ H Q hh => ?_
  refine disp_run (mk := mkT) (mo := HO.tup) ok.sch tr (fun _ _ => .inr rfl) (fun I H vs rs ft p ih hr hp nd => ?_) hh
  unfold mkT
  cases e : allD rs with
  | none =>
    refine ⟨I, ft, ?_, nd, .tn upd_same (hr.keep ⟨Same.refl _, fun a ha => ?_, fun a zs z => same_newL hp _ _ z⟩)⟩
    · have z := stp_new (o := .tup vs) ih hp
      exact ⟨z.ii, z.ih, fun a o e t _ => z.kp a o e t (by simp), z.tp, fun a ha => .inl ha, fun a h1 h2 => absurd h1 h2, z.tl, z.tb⟩
    · obtain ⟨h1, o, h2, _⟩ := hr.own a ha
      exact ⟨upd_ne (ne_of_none h2 hp), h1⟩
  | some ds =>
    obtain ⟨z, rfl⟩ := allD_ok hr e
    have st := stp_newD (o := HO.tup vs) ih hp
    refine ⟨upd I p (.tup vs), [], st, by simp, .d (.tup (SqT.of upd_same) (dpall_mono st.ii _ _ z))⟩
theorem se_lst (ok : CtxOk X c) (h : SOs X c E es os) : SE X c E (.List es pos) (cLst os) := by
  obtain ⟨ts, pa, tr⟩ := h.pa
  refine pe_imp (pe_lst pa) fun σ H Q hh => ?_
  refine disp_run (mk := mkL) (mo := HO.lst) ok.sch tr (fun _ _ => .inl (by intro z; cases z)) (fun I H vs rs ft p ih hr hp nd => ?_) hh
  unfold mkL
  have st := stp_new (o := HO.lst vs) ih hp
  have hnp : p ∉ ft := fun ha => by
    obtain ⟨_, o, h2, _⟩ := hr.own p ha
    rw [hp] at h2; cases h2
  cases e : allD rs with
  | none =>
    refine ⟨I, p :: ft, ?_, List.nodup_cons.mpr ⟨hnp, nd⟩, .on upd_same (ih.free hp) (hr.keep ⟨Same.refl _, fun a ha => ?_, fun a zs z => same_newL hp _ _ z⟩)⟩
    · exact ⟨st.ii, st.ih, fun a o e t _ => st.kp a o e t (by simp), st.tp, (fun a ha => by
        rcases List.mem_cons.mp ha with rfl | ha
        · exact .inr hp
        · exact .inl ha), fun a h1 h2 => absurd h1 h2, st.tl, st.tb⟩
    · obtain ⟨h1, o, h2, _⟩ := hr.own a ha
      exact ⟨upd_ne (ne_of_none h2 hp), h1⟩
  | some ds =>
    obtain ⟨z, rfl⟩ := allD_ok hr e
    exact ⟨I, [p], st, by simp, .ol upd_same (ih.free hp) z⟩
end
/-! ### calls -/
inductive FR where
  | ok (r : R) (rs : List R)
  | ex (x : Xc) (rs : List R)
  | no
abbrev GF := List R → FR
/-- the promise of a def that computes g -/
def spG (c : Ctx) (g : GF) : Sp := fun vs H Q E => ∃ I rs fp, Same I H ∧ TabsH H ∧ RepRs c I H vs rs fp ∧ fp.Nodup ∧ match g rs with
  | .ok r rs' => ∀ v I' H' fp' fr, Same I' H' → RepRs c I' H' vs rs' fp' → RepR c I' H' v r fr → (fp' ++ fr).Nodup → Stp fp I H (fp' ++ fr) I' H' → Q v H'
  | .ex x rs' => ∀ I' H' fp', Same I' H' → RepRs c I' H' vs rs' fp' → fp'.Nodup → Stp fp I H fp' I' H' → WishX c E x H'
  | .no => False
/-- what is handed over: temporaries, and what slots hold -/
def takeHs (ρ : List R) : List Hd → Option (List R × List R)
  | [] => some ([], ρ)
  | .t r :: hs => (takeHs ρ hs).map fun z => (r :: z.1, z.2)
  | .s i :: hs => (match ρ[i]? with
    | some (.d x) => (takeHs ρ hs).map fun z => (.d x :: z.1, z.2)
    | some r => if isJ r then none else (takeHs (ρ.set i .junk) hs).map fun z => (r :: z.1, z.2)
    | none => none)
  | .p _ _ :: _ => none
/-- what is handed back -/
def putHs (ρ : List R) : List Hd → List R → List R
  | .s i :: hs, r :: rs => putHs (ρ.set i r) hs rs
  | .t _ :: hs, _ :: rs => putHs ρ hs rs
  | _, _ => ρ
def cCall (g : GF) (os : List Op) : EF := fun ρ => (cOps os ρ).bind fun hs ρ1 => match takeHs ρ1 hs with
  | some (rs, ρ2) => (match g rs with
    | .ok r rs' => .ok r (putHs ρ2 hs rs')
    | .ex x rs' => .ex x (putHs ρ2 hs rs')
    | .no => .no)
  | none => .no
section
variable {c : Ctx} {E : XK} {I H : Hp} {σ : L2.St}
theorem take_ok : ∀ {hs : List Hd} {ρ ρ0 : List R} {fp fp0 : List Addr} {vs : List V} {ft : List Addr} {rs ρ2 : List R}, RepE c I H σ ρ fp → (fp ++ ft).Nodup → HdR c I H σ ρ0 fp0 hs vs ft → takeHs ρ hs = some (rs, ρ2) →
    ∃ fe fa, RepE c I H σ ρ2 fe ∧ RepRs c I H vs rs fa ∧ (fe ++ fa).Nodup ∧ ∀ a, a ∈ fe ++ fa → a ∈ fp ++ ft
  | [], ρ, _, fp, _, _, _, _, _, hE, nd, .nil, e => by
    cases e
    exact ⟨fp, [], hE, .nil, nd, fun a ha => ha⟩
  | .t r :: hs, ρ, _, fp, _, _, _, _, _, hE, nd, hdd, e => by
    cases hdd with
    | @t _ v gp _ vs ft h1 h2 =>
    simp only [takeHs] at e
    cases e2 : takeHs ρ hs with
    | none => rw [e2] at e; cases e
    | some z =>
      rw [e2] at e; cases e
      obtain ⟨n1, n2, n3⟩ := nd_app.mp nd
      obtain ⟨m1, m2, m3⟩ := nd_app.mp n2
      have nd' : (fp ++ ft).Nodup := nd_app.mpr ⟨n1, m2, fun a ha hb => n3 a ha (List.mem_append_right _ hb)⟩
      obtain ⟨fe, fa, q1, q2, q3, q4⟩ := take_ok hE nd' h2 e2
      refine ⟨fe, gp ++ fa, q1, .cons h1 q2, ?_, fun a ha => ?_⟩
      · obtain ⟨k1, k2, k3⟩ := nd_app.mp q3
        have out : ∀ a, a ∈ gp → a ∉ fe ++ fa := fun a ha hb => by
          rcases List.mem_append.mp (q4 a hb) with z | z
          · exact n3 a z (List.mem_append_left _ ha)
          · exact m3 a ha z
        refine nd_app.mpr ⟨k1, nd_app.mpr ⟨m1, k2, fun a ha hb => out a ha (List.mem_append_right _ hb)⟩, fun a ha hb => ?_⟩
        rcases List.mem_append.mp hb with z | z
        · exact out a z (List.mem_append_left _ ha)
        · exact k3 a ha z
      · simp only [List.mem_append] at ha ⊢
        rcases ha with z | z | z
        · have := q4 a (List.mem_append_left _ z)
          simp only [List.mem_append] at this
          rcases this with y | y
          · exact .inl y
          · exact .inr (.inr y)
        · exact .inr (.inl z)
        · have := q4 a (List.mem_append_right _ z)
          simp only [List.mem_append] at this
          rcases this with y | y
          · exact .inl y
          · exact .inr (.inr y)
  | .s i :: hs, ρ, _, fp, _, _, ft, rs9, ρ9, hE, nd, hdd, e => by
    cases hdd with
    | @s _ v _ vs _ hv h2 =>
    simp only [takeHs] at e
    cases e1 : ρ[i]? with
    | none => rw [e1] at e; cases e
    | some r =>
      obtain ⟨pre, gp, post, e3, h3, f⟩ := hE.at e1
      by_cases hd : ∃ x, r = .d x
      · obtain ⟨x, rfl⟩ := hd
        rw [e1] at e
        simp only at e
        cases e2 : takeHs ρ hs with
        | none => rw [e2] at e; cases e
        | some z =>
          rw [e2] at e; cases e
          obtain ⟨fe, fa, q1, q2, q3, q4⟩ := take_ok hE nd h2 e2
          rcases h3 with z | ⟨v', hv', hr⟩
          · cases z
          rw [hv] at hv'; cases hv'
          cases hr with
          | d hr => exact ⟨fe, [] ++ fa, q1, .cons (.d hr) q2, q3, q4⟩
      · have e' : (if isJ r then none else (takeHs (ρ.set i .junk) hs).map fun z => (r :: z.1, z.2)) = some (rs9, ρ9) := by
          rw [e1] at e
          cases r with
          | d x => exact absurd ⟨x, rfl⟩ hd
          | _ => exact e
        split at e'
        · cases e'
        · rename_i nj
          rcases h3 with rfl | ⟨v', hv', hr⟩
          · exact absurd rfl nj
          rw [hv] at hv'; cases hv'
          cases e2 : takeHs (ρ.set i .junk) hs with
          | none => rw [e2] at e'; cases e'
          | some z =>
            rw [e2] at e'; cases e'
            have z1 := f I H (some v) .junk [] ⟨Same.refl _, fun a ha => ⟨rfl, (hE.own a (by rw [e3]; simp at ha ⊢; rcases ha with z | z <;> simp [z])).1⟩, fun _ _ z => z⟩ (.inl ⟨rfl, rfl⟩)
            rw [set_self hv] at z1
            rw [e3] at nd
            have nd0 := nd
            simp only [List.append_assoc] at nd
            obtain ⟨n1, n2, n3⟩ := nd_app.mp nd
            obtain ⟨m1, m2, m3⟩ := nd_app.mp n2
            obtain ⟨k1, k2, k3⟩ := nd_app.mp m2
            have nd' : ((pre ++ [] ++ post) ++ ft).Nodup := by
              simp only [List.append_nil, List.append_assoc]
              exact nd_app.mpr ⟨n1, m2, fun a ha hb => n3 a ha (List.mem_append_right _ hb)⟩
            obtain ⟨fe, fa, q1, q2, q3, q4⟩ := take_ok z1 nd' h2 e2
            have out : ∀ a, a ∈ gp → a ∉ fe ++ fa := fun a ha hb => by
              have y := q4 a hb
              simp only [List.append_nil, List.append_assoc] at y
              rcases List.mem_append.mp y with z | z
              · exact n3 a z (List.mem_append_left _ ha)
              · exact m3 a ha z
            obtain ⟨o1, o2, o3⟩ := nd_app.mp q3
            refine ⟨fe, gp ++ fa, q1, .cons hr q2, nd_app.mpr ⟨o1, nd_app.mpr ⟨m1, o2, fun a ha hb => out a ha (List.mem_append_right _ hb)⟩, fun a ha hb => ?_⟩, fun a ha => ?_⟩
            · rcases List.mem_append.mp hb with z | z
              · exact out a z (List.mem_append_left _ ha)
              · exact o3 a ha z
            · rw [e3]
              simp only [List.mem_append] at ha ⊢
              have up : ∀ b, b ∈ fe ++ fa → ((b ∈ pre ∨ b ∈ gp) ∨ b ∈ post) ∨ b ∈ ft := fun b hb => by
                have y := q4 b hb
                simp only [List.append_nil, List.mem_append] at y
                rcases y with (y | y) | y
                · exact .inl (.inl (.inl y))
                · exact .inl (.inr y)
                · exact .inr y
              rcases ha with z | z | z
              · exact up a (List.mem_append_left _ z)
              · exact .inl (.inl (.inr z))
              · exact up a (List.mem_append_right _ z)
  | .p _ _ :: _, _, _, _, _, _, _, _, _, _, _, _, e => by cases e
theorem put_ok : ∀ {hs : List Hd} {ρ ρ0 : List R} {fe fp0 fa : List Addr} {vs : List V} {ft : List Addr} {rs : List R} {I0 H0 : Hp}, RepE c I H σ ρ fe → RepRs c I H vs rs fa → (fe ++ fa).Nodup → HdR c I0 H0 σ ρ0 fp0 hs vs ft →
    ∃ f3, RepE c I H σ (putHs ρ hs rs) f3 ∧ f3.Nodup ∧ ∀ a, a ∈ f3 → a ∈ fe ++ fa
  | [], ρ, _, fe, _, fa, _, _, rs, _, _, hE, hr, nd, .nil => by
    refine ⟨fe, ?_, (nd_app.mp nd).1, fun a ha => List.mem_append_left _ ha⟩
    cases hr
    exact hE
  | .t r :: hs, ρ, _, fe, _, _, _, _, _, _, _, hE, hr, nd, hdd => by
    cases hdd with
    | t h1 h2 =>
    cases hr with
    | @cons v r' gp vs rs fa q1 q2 =>
      obtain ⟨n1, n2, n3⟩ := nd_app.mp nd
      obtain ⟨m1, m2, m3⟩ := nd_app.mp n2
      obtain ⟨f3, k1, k2, k3⟩ := put_ok hE q2 (nd_app.mpr ⟨n1, m2, fun a ha hb => n3 a ha (List.mem_append_right _ hb)⟩) h2
      refine ⟨f3, k1, k2, fun a ha => ?_⟩
      have := k3 a ha
      simp only [List.mem_append] at this ⊢
      rcases this with z | z
      · exact .inl z
      · exact .inr (.inr z)
  | .s i :: hs, ρ, _, fe, _, _, _, _, _, _, _, hE, hr, nd, hdd => by
    cases hdd with
    | @s _ v _ _ _ hv h2 =>
    cases hr with
    | @cons _ r' gp _ rs fa q1 q2 =>
      obtain ⟨n1, n2, n3⟩ := nd_app.mp nd
      obtain ⟨m1, m2, m3⟩ := nd_app.mp n2
      have hi : i < ρ.length := by
        have := (List.getElem?_eq_some_iff.mp hv).1
        rw [hE.len] at this; exact this
      obtain ⟨pre, g0, post, e3, _, f⟩ := hE.at (List.getElem?_eq_getElem hi)
      have z1 := f I H (some v) r' gp ⟨Same.refl _, fun a ha => ⟨rfl, (hE.own a (by rw [e3]; simp at ha ⊢; rcases ha with z | z <;> simp [z])).1⟩, fun _ _ z => z⟩ (.inr ⟨v, rfl, q1⟩)
      rw [set_self hv] at z1
      rw [e3] at n1 n3
      simp only [List.append_assoc] at n1
      obtain ⟨a1, a2, a3⟩ := nd_app.mp n1
      obtain ⟨b1, b2, b3⟩ := nd_app.mp a2
      have nd' : ((pre ++ gp ++ post) ++ fa).Nodup := by
        simp only [List.append_assoc]
        refine nd_app.mpr ⟨a1, nd_app.mpr ⟨m1, nd_app.mpr ⟨b2, m2, fun a ha hb => n3 a (by simp [ha]) (List.mem_append_right _ hb)⟩, fun a ha hb => ?_⟩, fun a ha hb => ?_⟩
        · rcases List.mem_append.mp hb with z | z
          · exact n3 a (by simp [z]) (List.mem_append_left _ ha)
          · exact m3 a ha z
        · rcases List.mem_append.mp hb with z | z
          · exact n3 a (by simp [ha]) (List.mem_append_left _ z)
          · rcases List.mem_append.mp z with z | z
            · exact a3 a ha (List.mem_append_right _ z)
            · exact n3 a (by simp [ha]) (List.mem_append_right _ z)
      obtain ⟨f3, k1, k2, k3⟩ := put_ok z1 q2 nd' h2
      refine ⟨f3, k1, k2, fun a ha => ?_⟩
      have := k3 a ha
      rw [e3]
      simp only [List.mem_append] at this ⊢
      rcases this with ((z | z) | z) | z
      · exact .inl (.inl (.inl z))
      · exact .inr (.inl z)
      · exact .inl (.inr z)
      · exact .inr (.inr z)
  | .p i π :: hs, ρ, _, fe, _, fa, _, _, rs, _, _, hE, hr, nd, _ => ⟨fe, (by cases rs <;> exact hE), (nd_app.mp nd).1, fun a ha => List.mem_append_left _ ha⟩
end
end TP
set_option linter.all false
set_option maxRecDepth 100000
set_option maxHeartbeats 2000000
/-! TPg: calls of defs, methods, classes. -/
namespace TP
open PySem PySem.Spec PyProof.Rows L2
variable [TabsOf]
/-- other slots that are not stored to -/
def Ctx.at (c : Ctx) (pi : List Nat) (pv : Nat → V) : Ctx := { c with pi := pi, pv := pv }
section
variable {c : Ctx} {pi : List Nat} {pv : Nat → V} {I H : Hp}
mutual
theorem RepR.at : ∀ {r : R} {v : V} {fp : List Addr}, RepR c I H v r fp → RepR (c.at pi pv) I H v r fp
  | .d x, _, _, h => by cases h with | d h => exact .d h
  | .ol xs, _, _, h => by cases h with | ol h1 h2 h3 => exact .ol h1 h2 h3
  | .on rs, _, _, h => by cases h with | on h1 h2 h3 => exact .on h1 h2 (RepRs.at' h3)
  | .tn rs, _, _, h => by cases h with | tn h1 h3 => exact .tn h1 (RepRs.at' h3)
  | .dt kvs, _, _, h => by cases h with | dt h1 h2 h3 => exact .dt h1 h2 h3
  | .dk n rs, _, _, h => by cases h with | dk h1 h2 h3 h4 => exact .dk h1 h2 h3 (RepRs.at' h4)
  | .ob n rs, _, _, h => by cases h with | ob h1 h2 h3 h4 => exact .ob h1 h2 h3 (RepRs.at' h4)
  | .junk, _, _, h => by cases h; exact .junk
theorem RepRs.at' : ∀ {rs : List R} {vs : List V} {fp : List Addr}, RepRs c I H vs rs fp → RepRs (c.at pi pv) I H vs rs fp
  | [], _, _, h => by cases h; exact .nil
  | r :: rs, _, _, h => by cases h with | cons h1 h2 => exact .cons (RepR.at h1) (RepRs.at' h2)
end
theorem RepE.at' {σ : L2.St} {ρ : List R} {fp : List Addr} (h : RepE c I H σ ρ fp) : RepE (c.at pi pv) I H σ ρ fp := by
  induction h with
  | nil => exact .nil
  | unset _ ih => exact .unset ih
  | cons h1 _ ih => exact .cons h1.at ih
end
section
variable {c : Ctx} {pi : List Nat} {pv : Nat → V} {I H : Hp} {fp : List Addr}
theorem RepR.unat {r : R} {v : V} (h : RepR (c.at pi pv) I H v r fp) : RepR c I H v r fp := by
  have z := RepR.at (pi := c.pi) (pv := c.pv) h
  exact z
theorem RepRs.unat {r : List R} {v : List V} (h : RepRs (c.at pi pv) I H v r fp) : RepRs c I H v r fp := by
  have z := RepRs.at' (pi := c.pi) (pv := c.pv) h
  exact z
theorem RepE.unat {σ : L2.St} {ρ : List R} (h : RepE (c.at pi pv) I H σ ρ fp) : RepE c I H σ ρ fp := by
  have z := RepE.at' (pi := c.pi) (pv := c.pv) h
  exact z
end
theorem spG_at {c : Ctx} {pi : List Nat} {pv : Nat → V} {g : GF} {vs : List V} {H : Hp} {Q : VK} {E : XK} (h : spG (c.at pi pv) g vs H Q E) : spG c g vs H Q E := by
  obtain ⟨I, rs, fp, ih, tb, hr, nd, m⟩ := h
  refine ⟨I, rs, fp, ih, tb, hr.unat, nd, ?_⟩
  split at m
  · rename_i r rs' e
    exact fun v I' H' fp' fr i1 i2 i3 => m v I' H' fp' fr i1 i2.at' i3.at
  · rename_i x rs' e
    intro I' H' fp' i1 i2
    exact m I' H' fp' i1 i2.at'
  · exact m
theorem FnOk.at {P : Program} {w : World} {K : PySem.W.Frag} {mg : Str → Option Value} {base : Heap} {CX : CXT} {k : Nat} {f : Addr} {fd : FuncData} {ps : List Str} {c : Ctx} {pi : List Nat} {pv : Nat → V} {g : GF} (F : FnOk P w K mg base CX k f fd ps (spG c g)) :
    FnOk P w K mg base CX k f fd ps (spG (c.at pi pv) g) := F.imp fun _ _ _ _ h => spG_at h
section
variable {X : Cx} {c : Ctx} {E : XK} {CX : CXT} {k : Nat} {f C : Addr} {fd : FuncData} {ps : List Str} {x m : Str} {p pos apos : Pos} {e o : Expr} {es : List Expr} {os : List Op} {g : GF}
/-- the middle of a call: from the operands to what is behind -/
theorem call_mid {I H : Hp} {σ : L2.St} {fp : List Addr} {Q : VK} {I1 H1 : Hp} {ρ1 : List R} {fp1 ft : List Addr} {hs : List Hd} {vs : List V}
    (G1 : Good c I1 H1 σ ρ1 fp1) (hr : HdR c I1 H1 σ ρ1 fp1 hs vs ft) (nd : (fp1 ++ ft).Nodup) (st : Stp fp I H (fp1 ++ ft) I1 H1)
    (p : OutG c E I H fp (match takeHs ρ1 hs with
      | some (rs, ρ2) => (match g rs with
        | .ok r rs' => .ok r (putHs ρ2 hs rs')
        | .ex x rs' => .ex x (putHs ρ2 hs rs')
        | .no => .no)
      | none => .no) (PostE c I H fp σ Q)) : spG c g vs H1 Q E := by
  cases e1 : takeHs ρ1 hs with
  | none => simp only [e1] at p; exact p.elim
  | some z =>
    obtain ⟨rs, ρ2⟩ := z
    simp only [e1] at p
    obtain ⟨fe, fa, q1, q2, q3, q4⟩ := take_ok G1.rep nd hr e1
    obtain ⟨n1, n2, n3⟩ := nd_app.mp q3
    refine ⟨I1, rs, fa, G1.ih, G1.tb, q2, n2, ?_⟩
    cases e2 : g rs with
    | no => simp only [e2] at p; exact p.elim
    | ok r rs' =>
      simp only [e2] at p
      intro v I2 H2 fp' fr ih2 rr rv nd2 st2
      have kp := st2.kept q1.own n3
      have ap := st2.apart q1.own n3
      have nd3 : (fe ++ fp').Nodup := nd_app.mpr ⟨n1, (nd_app.mp nd2).1, fun a ha hb => ap a ha (List.mem_append_left _ hb)⟩
      obtain ⟨f3, k1, k2, k3⟩ := put_ok (q1.keep kp) rr nd3 hr
      have mm : ∀ a, a ∈ f3 → a ∈ fe ∨ a ∈ fp' := fun a ha => List.mem_append.mp (k3 a ha)
      refine p v I2 H2 f3 fr ⟨ih2, k1, k2, G1.par, st2.tb G1.tb⟩ rv (nd_app.mpr ⟨k2, (nd_app.mp nd2).2.1, fun a ha hb => ?_⟩) ?_
      · rcases mm a ha with z | z
        · exact ap a z (List.mem_append_right _ hb)
        · exact (nd_app.mp nd2).2.2 a z hb
      · refine (st.trans (st2.beside (gp := fe) |>.more fun a ha => ?_)).less fun a ha => ?_
        · refine q4 a ?_
          simp only [List.mem_append] at ha ⊢
          rcases ha with z | z
          · exact .inr z
          · exact .inl z
        · simp only [List.mem_append] at ha ⊢
          rcases ha with z | z
          · rcases mm a z with y | y
            · exact .inr y
            · exact .inl (.inl y)
          · exact .inl (.inr z)
    | ex x rs' =>
      simp only [e2] at p
      intro I2 H2 fp' ih2 rr nd2 st2
      have kp := st2.kept q1.own n3
      have ap := st2.apart q1.own n3
      have nd3 : (fe ++ fp').Nodup := nd_app.mpr ⟨n1, nd2, fun a ha hb => ap a ha hb⟩
      obtain ⟨f3, k1, k2, k3⟩ := put_ok (q1.keep kp) rr nd3 hr
      have mm : ∀ a, a ∈ f3 → a ∈ fe ∨ a ∈ fp' := fun a ha => List.mem_append.mp (k3 a ha)
      refine p σ I2 H2 f3 ⟨ih2, k1, k2, G1.par, st2.tb G1.tb⟩ ?_
      refine (st.trans (st2.beside (gp := fe) |>.more fun a ha => ?_)).less fun a ha => ?_
      · refine q4 a ?_
        simp only [List.mem_append] at ha ⊢
        rcases ha with z | z
        · exact .inr z
        · exact .inl z
      · simp only [List.mem_append]
        rcases mm a ha with y | y
        · exact .inr y
        · exact .inl y
theorem se_call (ok : CtxOk X c) (F : FnOk X.prog X.w X.K X.mg X.base CX k f fd ps (spG c g)) (hr : Room k X.A) (hg : Gl X x) (hm : X.mg x = some (.ref f)) (hk : PySem.W.keepIn X.K (.ref f) = true) (hb : Binds X.K fd ps []) (hx : Passes CX X E)
    (h : SOs X c E (e :: es) os) (hdb : (x == ("__debug__" : Str)) = false := by decide) (hpl : (backTo pos (starEach es X.env)).any (·.1) = false := by rfl) : SE X c E (.Call (.Name x p) (e :: es) [] pos) (cCall g os) := by
  cases h with
  | @cons _ o _ os h1 h2 h3 =>
  obtain ⟨ts, pa, tr⟩ := (SOs.cons h1 h2 h3).pa
  refine pe_imp (pe_call F hr hg hm hk hb .nil hx pa hdb h2 hpl) fun σ H Q ⟨I, ρ, fp, G, out⟩ => ?_
  show tL ts σ H fun vs H1 => spG c g (vs ++ []) H1 Q E
  refine ops_run ok.sch tr G out.bind fun hs ρ1 p vs I1 H1 fp1 ft G1 hr nd st => ?_
  rw [List.append_nil]
  exact call_mid G1 hr nd st p
theorem se_call0 (ok : CtxOk X c) (F : FnOk X.prog X.w X.K X.mg X.base CX k f fd ps (spG c g)) (hr : Room k X.A) (hg : Gl X x) (hm : X.mg x = some (.ref f)) (hk : PySem.W.keepIn X.K (.ref f) = true) (hb : Binds X.K fd ps []) (hx : Passes CX X E)
    (hdb : (x == ("__debug__" : Str)) = false := by decide) : SE X c E (.Call (.Name x p) [] [] pos) (cCall g []) := by
  refine pe_imp (pe_call0 F hr hg hm hk hb .nil hx hdb) fun σ H Q ⟨I, ρ, fp, G, out⟩ => ?_
  show spG c g ([] ++ []) H Q E
  exact ops_run (ts := []) (Q := fun vs H1 => spG c g vs H1 Q E) ok.sch .nil G out.bind fun hs ρ1 p vs I1 H1 fp1 ft G1 hr nd st => call_mid G1 hr nd st p
/-- o.m(..), o a slot that holds an object of the class n -/
def cMeth (n i : Nat) (g : GF) (os : List Op) : EF := fun ρ => match ρ[i]? with
  | some (.ob m _) => if m = n then cCall g (.s i :: os) ρ else .no
  | _ => .no
theorem meth_mid (ok : CtxOk X c) {n i : Nat} {ts : List TE} (tr : Paired (TrO c E) os ts) (hm : ∀ f, f ∈ c.sch n → f ≠ m) {σ : L2.St} {H : Hp} {Q : VK} (h : tE c E (cMeth n i g os) σ H Q) :
    tVar i σ H fun x H1 => ∃ a dx fs, x = .ref a ∧ H1 a = some (.ins (c.cls n) dx fs) ∧ fs.lookup m = none ∧ tL ts σ H1 fun vs H2 => spG c g (x :: (vs ++ [])) H2 Q E := by
  obtain ⟨I, ρ, fp, G, out⟩ := h
  unfold cMeth at out
  split at out
  · rename_i q rs e1
    split at out
    · rename_i hq
      subst hq
      obtain ⟨pre, gp, post, e3, h3, _⟩ := G.rep.at e1
      rcases h3 with z | ⟨v, hv, hr⟩
      · cases z
      refine ⟨v, hv, ?_⟩
      cases hr with
      | @ob pa dx es _ _ fp0 h1 h2 h3 h4 =>
        refine ⟨pa, dx, es, rfl, h1, ?_, ?_⟩
        · cases e5 : es.lookup m with
          | none => rfl
          | some v =>
            have hmem : (m, v) ∈ es := PySem.mem_of_lookup e5
            have : m ∈ es.map (·.1) := List.mem_map.mpr ⟨_, hmem, rfl⟩
            rw [h3] at this
            exact absurd rfl (hm m (List.mem_of_mem_take this))
        · have out' : OutG c E I H fp ((cOps os ρ).bind fun hs ρ1 => match takeHs ρ1 (.s i :: hs) with
            | some (rs, ρ2) => (match g rs with
              | .ok r rs' => .ok r (putHs ρ2 (.s i :: hs) rs')
              | .ex x rs' => .ex x (putHs ρ2 (.s i :: hs) rs')
              | .no => .no)
            | none => .no) (PostE c I H fp σ Q) := by
            unfold cCall at out
            simp only [cOps, e1] at out
            have nj : ¬ isJ (R.ob q rs) = true := by intro z; cases z
            rw [if_neg nj] at out
            cases e6 : cOps os ρ with
            | no => rw [e6] at out; exact out
            | ex x ρ1 => rw [e6] at out; exact out
            | ok hs ρ1 => rw [e6] at out; exact out
          refine ops_run ok.sch tr G out'.bind fun hs ρ1 p vs I1 H1 fp1 ft G1 hr nd st => ?_
          rw [List.append_nil]
          exact call_mid (hs := .s i :: hs) G1 (.s hv hr) nd st p
    · exact out.elim
  · exact out.elim
theorem se_meth {n i : Nat} {pl : Sem Bool} (ok : CtxOk X c) (he : PE X o (tVar i)) (cl : Cls X.K (c.cls n)) (hm : Meth X.K (c.cls n) m f) (F : FnOk X.prog X.w X.K X.mg X.base CX k f fd ps (spG c g)) (hr : Room k X.A) (hb : Binds X.K fd ps []) (hx : Passes CX X E)
    (hn : ∀ f, f ∈ c.sch n → f ≠ m) (h : SOs X c E (e :: es) os) (hpl : (backTo pos (starEach es X.env)).any (·.1) = false := by rfl)
    (ht : eval (.Call (.Attribute o m apos) (e :: es) [] pos) X.env = (do
      let ov ← eval o X.env
      standAt apos.atName
      let (f, first) ← holding [ov] (getMethod ov m pl)
      callWith pos f first (backTo pos (starEach (e :: es) X.env)) (backToKw pos (keywordEach [] X.env))) := by rfl) : SE X c E (.Call (.Attribute o m apos) (e :: es) [] pos) (cMeth n i g os) := by
  cases h with
  | @cons _ oo _ os h1 h2 h3 =>
  obtain ⟨ts, pa, tr⟩ := (SOs.cons h1 h2 h3).pa
  exact pe_imp (pe_meth he cl hm F hr hb .nil hx pa h2 hpl ht) fun σ H Q h => meth_mid ok tr hn h
theorem se_meth0 {n i : Nat} {pl : Sem Bool} (ok : CtxOk X c) (he : PE X o (tVar i)) (cl : Cls X.K (c.cls n)) (hm : Meth X.K (c.cls n) m f) (F : FnOk X.prog X.w X.K X.mg X.base CX k f fd ps (spG c g)) (hr : Room k X.A) (hb : Binds X.K fd ps []) (hx : Passes CX X E)
    (hn : ∀ f, f ∈ c.sch n → f ≠ m)
    (ht : eval (.Call (.Attribute o m apos) [] [] pos) X.env = (do
      let ov ← eval o X.env
      standAt apos.atName
      let (f, first) ← holding [ov] (getMethod ov m pl)
      callWith pos f first (backTo pos (starEach [] X.env)) (backToKw pos (keywordEach [] X.env))) := by rfl) : SE X c E (.Call (.Attribute o m apos) [] [] pos) (cMeth n i g []) :=
  pe_imp (pe_meth0 he cl hm F hr hb .nil hx ht) fun σ H Q h => meth_mid (ts := []) ok .nil hn h
/-- C(..): the new object is what __init__ has made of it -/
def cMake (n : Nat) (g : GF) (os : List Op) : EF := fun ρ => (cOps os ρ).bind fun hs ρ1 => match takeHs ρ1 hs with
  | some (rs, ρ2) => (match g (.ob n [] :: rs) with
    | .ok (.d .none) (r :: rs') => .ok r (putHs ρ2 hs rs')
    | .ex x (r :: rs') => .ex x (putHs ρ2 hs rs')
    | _ => .no)
  | none => .no
theorem se_make {n : Nat} (ok : CtxOk X c) (M : Mk X.K (c.cls n) f) (F : FnOk X.prog X.w X.K X.mg X.base CX k f fd ps (spG c g)) (hr : Room (k + 1) X.A) (hg : Gl X x) (hm : X.mg x = some (.ref (c.cls n))) (hb : Binds X.K fd ps []) (hx : Passes CX X E)
    (h : SOs X c E (e :: es) os) (hdb : (x == ("__debug__" : Str)) = false := by decide) (hpl : (backTo pos (starEach es X.env)).any (·.1) = false := by rfl) : SE X c E (.Call (.Name x p) (e :: es) [] pos) (cMake n g os) := by
  cases h with
  | @cons _ oo _ os h1 h2 h3 =>
  obtain ⟨ts, pa, tr⟩ := (SOs.cons h1 h2 h3).pa
  refine pe_imp (pe_make M F hr hg hm hb .nil hx pa hdb h2 hpl) fun σ H Q ⟨I, ρ, fp, G, out⟩ => ?_
  show tL ts σ H fun vs H1 => ∀ x dx, H1 x = none → H1 dx = none → dx ≠ x → spG c g (.ref x :: (vs ++ [])) (upd (upd H1 dx (.own x)) x (.ins (c.cls n) dx [])) (fun v H2 => v = .non ∧ Q (.ref x) H2) E
  refine ops_run ok.sch tr G out.bind fun hs ρ1 pp vs I1 H1 fp1 ft G1 hr nd st y dx hy hdx ne => ?_
  rw [List.append_nil]
  cases e1 : takeHs ρ1 hs with
  | none => simp only [e1] at pp; exact pp.elim
  | some z =>
    obtain ⟨rs, ρ2⟩ := z
    simp only [e1] at pp
    obtain ⟨fe, fa, q1, q2, q3, q4⟩ := take_ok G1.rep nd hr e1
    obtain ⟨n1, n2, n3⟩ := nd_app.mp q3
    have sN : L2.Same H1 (upd (upd H1 dx (.own y)) y (.ins (c.cls n) dx [])) := fun b u eb => by
      rw [upd_ne (ne_of_none eb hy), upd_ne (ne_of_none eb hdx)]; exact eb
    have stN : Stp fa I1 H1 (y :: fa) I1 (upd (upd H1 dx (.own y)) y (.ins (c.cls n) dx [])) :=
      Stp.ofSame (Same.refl _) (G1.ih.trans (.of sN)) sN (fun a ha => by
        rcases List.mem_cons.mp ha with rfl | ha
        · exact .inr hy
        · exact .inl ha) fun a h1 h2 => absurd h1 h2
    have kpN : ∀ gp : List Addr, (∀ a, a ∈ gp → OwnA I1 H1 a) → Kp gp I1 H1 I1 (upd (upd H1 dx (.own y)) y (.ins (c.cls n) dx [])) := fun gp og => ⟨Same.refl _, fun a ha => by
      obtain ⟨z1, o, z2, _⟩ := og a ha
      exact ⟨by rw [upd_ne (ne_of_none z2 hy), upd_ne (ne_of_none z2 hdx)], z1⟩, fun a vs e => sN _ _ e⟩
    have hy2 : y ∉ fa := fun hh => by
      obtain ⟨_, o, z2, _⟩ := q2.own y hh
      rw [hy] at z2; cases z2
    have hy3 : y ∉ fe := fun hh => by
      obtain ⟨_, o, z2, _⟩ := q1.own y hh
      rw [hy] at z2; cases z2
    have rep0 : RepRs c I1 (upd (upd H1 dx (.own y)) y (.ins (c.cls n) dx [])) (.ref y :: vs) (.ob n [] :: rs) ([y] ++ fa) :=
      .cons (.ob (es := []) (rs := []) (fp := []) upd_same (G1.ih.free hy) (by simp) .nil) (q2.keep (kpN fa q2.own))
    have q1N := q1.keep (kpN fe q1.own)
    have ownN : ∀ a, a ∈ fe → OwnA I1 (upd (upd H1 dx (.own y)) y (.ins (c.cls n) dx [])) a := q1N.own
    have disN : ∀ a, a ∈ fe → a ∉ [y] ++ fa := fun a ha hb => by
      rcases List.mem_append.mp hb with z | z
      · rw [List.mem_singleton] at z; subst z; exact hy3 ha
      · exact n3 a ha z
    have mono1 : ∀ a, a ∈ fe ++ fa → a ∈ fp1 ++ ft := q4
    have stA : Stp fp I H (fe ++ (y :: fa)) I1 (upd (upd H1 dx (.own y)) y (.ins (c.cls n) dx [])) := by
      refine (st.trans ((stN.beside (gp := fe)).more fun a ha => ?_)).less fun a ha => ?_
      · refine q4 a ?_
        simp only [List.mem_append] at ha ⊢
        rcases ha with z | z
        · exact .inr z
        · exact .inl z
      · simp only [List.mem_append, List.mem_cons] at ha ⊢
        rcases ha with z | z | z
        · exact .inr z
        · exact .inl (.inl z)
        · exact .inl (.inr z)
    refine ⟨I1, .ob n [] :: rs, [y] ++ fa, G1.ih.trans (.of sN), stN.tb G1.tb, rep0, List.nodup_cons.mpr ⟨hy2, n2⟩, ?_⟩
    cases e2 : g (.ob n [] :: rs) with
    | no => simp only [e2] at pp; exact pp.elim
    | ok r0 rs0 =>
      intro v I2 H2 fp' fr ih2 rr rv nd2 st2
      have pp2 : OutG c E I H fp (match FR.ok r0 rs0 with
        | .ok (.d .none) (r :: rs') => .ok r (putHs ρ2 hs rs')
        | .ex x (r :: rs') => .ex x (putHs ρ2 hs rs')
        | _ => .no) (PostE c I H fp σ Q) := by rw [← e2]; exact pp
      split at pp2
      · rename_i r rs' ef
        cases ef
        cases rv with
        | d hd =>
        cases hd
        cases rr with
        | @cons _ _ gp _ _ fq w1 w2 =>
        refine ⟨rfl, ?_⟩
        simp only [List.append_nil] at nd2 st2
        have kp := st2.kept ownN disN
        have ap := st2.apart ownN disN
        obtain ⟨m1, m2, m3⟩ := nd_app.mp nd2
        have nd3 : (fe ++ fq).Nodup := nd_app.mpr ⟨n1, m2, fun a ha hb => ap a ha (List.mem_append_right _ hb)⟩
        obtain ⟨f3, k1, k2, k3⟩ := put_ok (q1N.keep kp) w2 nd3 hr
        have mm : ∀ a, a ∈ f3 → a ∈ fe ∨ a ∈ fq := fun a ha => List.mem_append.mp (k3 a ha)
        refine pp2 (.ref y) I2 H2 f3 gp ⟨ih2, k1, k2, G1.par, st2.tb (stN.tb G1.tb)⟩ w1 (nd_app.mpr ⟨k2, m1, fun a ha hb => ?_⟩) ?_
        · rcases mm a ha with z | z
          · exact ap a z (List.mem_append_left _ hb)
          · exact m3 a hb z
        · refine (stA.trans (st2.beside (gp := fe) |>.more fun a ha => ?_)).less fun a ha => ?_
          · simp only [List.mem_append, List.mem_cons, List.mem_nil_iff, or_false] at ha ⊢
            rcases ha with (z | z) | z
            · exact .inr (.inl z)
            · exact .inr (.inr z)
            · exact .inl z
          · simp only [List.mem_append] at ha ⊢
            rcases ha with z | z
            · rcases mm a z with y | y
              · exact .inr y
              · exact .inl (.inr y)
            · exact .inl (.inl z)
      · rename_i ef; cases ef
      · exact pp2.elim
    | ex x0 rs0 =>
      intro I2 H2 fp' ih2 rr nd2 st2
      have pp2 : OutG c E I H fp (match FR.ex x0 rs0 with
        | .ok (.d .none) (r :: rs') => .ok r (putHs ρ2 hs rs')
        | .ex x (r :: rs') => .ex x (putHs ρ2 hs rs')
        | _ => .no) (PostE c I H fp σ Q) := by rw [← e2]; exact pp
      split at pp2
      · rename_i ef; cases ef
      · rename_i x1 r rs' ef
        cases ef
        cases rr with
        | @cons _ _ gp _ _ fq w1 w2 =>
        have kp := st2.kept ownN disN
        have ap := st2.apart ownN disN
        obtain ⟨m1, m2, m3⟩ := nd_app.mp nd2
        have nd3 : (fe ++ fq).Nodup := nd_app.mpr ⟨n1, m2, fun a ha hb => ap a ha (List.mem_append_right _ hb)⟩
        obtain ⟨f3, k1, k2, k3⟩ := put_ok (q1N.keep kp) w2 nd3 hr
        have mm : ∀ a, a ∈ f3 → a ∈ fe ∨ a ∈ fq := fun a ha => List.mem_append.mp (k3 a ha)
        refine pp2 σ I2 H2 f3 ⟨ih2, k1, k2, G1.par, st2.tb (stN.tb G1.tb)⟩ ?_
        refine (stA.trans (st2.beside (gp := fe) |>.more fun a ha => ?_)).less fun a ha => ?_
        · simp only [List.mem_append, List.mem_cons, List.mem_nil_iff, or_false] at ha ⊢
          rcases ha with (z | z) | z
          · exact .inr (.inl z)
          · exact .inr (.inr z)
          · exact .inl z
        · simp only [List.mem_append] at ha ⊢
          rcases mm a ha with y | y
          · exact .inr y
          · exact .inl (.inr y)
      · exact pp2.elim
end
end TP
set_option linter.all false
set_option maxRecDepth 100000
set_option maxHeartbeats 2000000
/-! TPh: statements. -/
namespace TP
open PySem PySem.Spec PyProof.Rows L2
variable [TabsOf]
inductive Fl where
  | nx
  | bk
  | ct
  | rt (r : R)
abbrev SF := List R → Rs Fl
def PostS (c : Ctx) (I H : Hp) (fp : List Addr) (D : Ends) : Fl → List R → Prop
  | .nx, ρ' => ∀ σ' I' H' fp', Good c I' H' σ' ρ' fp' → Stp fp I H fp' I' H' → D.nx σ' H'
  | .bk, ρ' => ∀ σ' I' H' fp', Good c I' H' σ' ρ' fp' → Stp fp I H fp' I' H' → D.bk σ' H'
  | .ct, ρ' => ∀ σ' I' H' fp', Good c I' H' σ' ρ' fp' → Stp fp I H fp' I' H' → D.ct σ' H'
  | .rt r, ρ' => ∀ v σ' I' H' fp' fr, Good c I' H' σ' ρ' fp' → RepR c I' H' v r fr → (fp' ++ fr).Nodup → Stp fp I H (fp' ++ fr) I' H' → D.rt v H'
theorem PostS.mono {c : Ctx} {I H I1 H1 : Hp} {fp fp1 : List Addr} {D : Ends} {f : Fl} {ρ' : List R} (p : PostS c I H fp D f ρ') (st : Stp fp I H fp1 I1 H1) : PostS c I1 H1 fp1 D f ρ' := by
  cases f with
  | nx => exact fun σ' I' H' fp' G s2 => p σ' I' H' fp' G (st.trans s2)
  | bk => exact fun σ' I' H' fp' G s2 => p σ' I' H' fp' G (st.trans s2)
  | ct => exact fun σ' I' H' fp' G s2 => p σ' I' H' fp' G (st.trans s2)
  | rt r => exact fun v σ' I' H' fp' fr G h nd s2 => p v σ' I' H' fp' fr G h nd (st.trans s2)
def tS (c : Ctx) (E : XK) (s : SF) : TS := fun D σ H => ∃ I ρ fp, Good c I H σ ρ fp ∧ OutG c E I H fp (s ρ) (PostS c I H fp D)
def SS (X : Cx) (c : Ctx) (E : XK) (st : Stmt) (s : SF) : Prop := PS X st (tS c E s)
def SSs (X : Cx) (c : Ctx) (E : XK) (st : List Stmt) (s : SF) : Prop := PSs X st (tS c E s)
theorem ps_imp {X : Cx} {st : Stmt} {t t' : TS} (h : PS X st t) (i : ∀ D σ H, t' D σ H → t D σ H) : PS X st t' := ⟨fun pins s σ H D I q => h.run pins s σ H D I (i D σ H q)⟩
theorem pss_imp {X : Cx} {st : List Stmt} {t t' : TS} (h : PSs X st t) (i : ∀ D σ H, t' D σ H → t D σ H) : PSs X st t' := ⟨fun pins s σ H D I q => h.run pins s σ H D I (i D σ H q)⟩
def cNx : SF := fun ρ => .ok .nx ρ
def cBk : SF := fun ρ => .ok .bk ρ
def cCt : SF := fun ρ => .ok .ct ρ
def cNo : SF := fun _ => .no
def cSeq (s t : SF) : SF := fun ρ => (s ρ).bind fun f ρ1 => match f with
  | .nx => t ρ1
  | f => .ok f ρ1
def cRet (f : EF) : SF := fun ρ => (f ρ).bind fun r ρ1 => .ok (.rt r) ρ1
def cRetN : SF := fun ρ => .ok (.rt (.d .none)) ρ
def cDrop (f : EF) : SF := fun ρ => (f ρ).bind fun _ ρ1 => .ok .nx ρ1
def cIte (t : TF) (s u : SF) : SF := fun ρ => (t ρ).bind fun b ρ1 => if b = true then s ρ1 else u ρ1
section
variable {X : Cx} {c : Ctx} {E : XK} {a b e o : Expr} {pos : Pos} {st : Stmt} {rest sts : List Stmt} {s t u : SF} {f : EF} {tf : TF}
theorem nx_here {I H : Hp} {fp : List Addr} {σ : L2.St} {ρ : List R} {D : Ends} (G : Good c I H σ ρ fp) (p : PostS c I H fp D .nx ρ) : D.nx σ H := p σ I H fp G (Stp.refl G.ih)
theorem sss_nil : SSs X c E [] cNx := pss_imp pss_nil fun D σ H ⟨I, ρ, fp, G, o⟩ => nx_here G o
theorem sss_cons (h1 : SS X c E st s) (h2 : SSs X c E rest t) : SSs X c E (st :: rest) (cSeq s t) := by
  refine pss_imp (pss_cons h1 h2) fun D σ H ⟨I, ρ, fp, G, o⟩ => ⟨I, ρ, fp, G, OutG.imp (OutG.bind o) fun fl ρ1 o1 => ?_⟩
  cases fl with
  | nx => exact fun σ1 I1 H1 fp1 G1 st => ⟨I1, ρ1, fp1, G1, (OutG.wx o1 st).imp fun f2 ρ2 p => p.mono st⟩
  | bk => exact o1
  | ct => exact o1
  | rt r => exact o1
theorem sss_one (h1 : SS X c E st s) : SSs X c E [st] s := pss_one h1
theorem ss_pass : SS X c E (.Pass pos) cNx := ps_imp ps_pass fun D σ H ⟨I, ρ, fp, G, o⟩ => nx_here G o
theorem ss_break : SS X c E (.Break pos) cBk := ps_imp ps_break fun D σ H ⟨I, ρ, fp, G, o⟩ => o σ I H fp G (Stp.refl G.ih)
theorem ss_continue : SS X c E (.Continue pos) cCt := ps_imp ps_continue fun D σ H ⟨I, ρ, fp, G, o⟩ => o σ I H fp G (Stp.refl G.ih)
theorem ss_never : SS X c E st cNo := ps_imp ps_never fun D σ H ⟨I, ρ, fp, G, o⟩ => o
theorem ss_ret (h : SE X c E e f) : SS X c E (.Return (some e) pos) (cRet f) :=
  ps_imp (ps_ret h) fun D σ H ⟨I, ρ, fp, G, o⟩ => ⟨I, ρ, fp, G, OutG.imp (OutG.bind o) fun r ρ1 p v I1 H1 fp1 fr G1 r1 nd st => p v σ I1 H1 fp1 fr G1 r1 nd st⟩
theorem ss_retN : SS X c E (.Return none pos) cRetN :=
  ps_imp ps_retN fun D σ H ⟨I, ρ, fp, G, o⟩ => o .non σ I H fp [] G (.d .non) (by simpa using G.nd) (by simpa using Stp.refl G.ih)
theorem ss_expr (h : SE X c E e f) (hs : swapsWith e none pos.line X.env = pure false := by rfl) : SS X c E (.Expr e pos) (cDrop f) :=
  ps_imp (ps_expr h hs) fun D σ H ⟨I, ρ, fp, G, o⟩ => ⟨I, ρ, fp, G, OutG.imp (OutG.bind o) fun r ρ1 p v I1 H1 fp1 fr G1 r1 nd st =>
    p σ I1 H1 fp1 G1 (st.less fun x hx => List.mem_append_left _ hx)⟩
theorem ss_if (hc : ST X c E e tf) (h1 : SSs X c E rest s) (h2 : SSs X c E sts t) : SS X c E (.If e rest sts pos) (cIte tf s t) := by
  refine ps_imp (ps_if hc h1 h2) fun D σ H ⟨I, ρ, fp, G, o⟩ => ⟨I, ρ, fp, G, OutG.imp (OutG.bind o) fun b ρ1 o1 I1 H1 fp1 G1 st => ?_⟩
  cases b with
  | true => exact ⟨I1, ρ1, fp1, G1, (OutG.wx o1 st).imp fun _ _ p => p.mono st⟩
  | false => exact ⟨I1, ρ1, fp1, G1, (OutG.wx o1 st).imp fun _ _ p => p.mono st⟩
/-! ### targets -/
/-- what a target does with the value r: None where it cannot -/
abbrev GT := R → List R → Option (List R)
def gN (i : Nat) : GT := fun r ρ => some (ρ.set i r)
def parts : R → Option (List R)
  | .d (.tuple ds) => some (ds.map .d)
  | .tn rs => some rs
  | _ => none
def gAll : List GT → List R → List R → Option (List R)
  | [], [], ρ => some ρ
  | g :: gs, r :: rs, ρ => (g r ρ).bind fun ρ1 => gAll gs rs ρ1
  | _, _, _ => none
def gT (gs : List GT) : GT := fun r ρ => (parts r).bind fun rs => gAll gs rs ρ
def tG (c : Ctx) (vs : List Nat) (g : GT) : TG := fun v σ H Q => ∃ I ρ fp r fr ρ', Good c I H σ ρ fp ∧ RepR c I H v r fr ∧ (fp ++ fr).Nodup ∧ g r ρ = some ρ' ∧
  ∀ σ' fp', Good c I H σ' ρ' fp' → (∀ a, a ∈ fp' → a ∈ fp ++ fr) → (∀ ws : List Nat, (∀ j, j ∈ vs → j ∈ ws) → wipe σ' ws = wipe σ ws) → Q σ' H
def tGs (c : Ctx) (vs : List Nat) (gs : List GT) : TGs := fun us σ H Q => ∃ I ρ fp rs fr ρ', Good c I H σ ρ fp ∧ RepRs c I H us rs fr ∧ (fp ++ fr).Nodup ∧ gAll gs rs ρ = some ρ' ∧
  ∀ σ' fp', Good c I H σ' ρ' fp' → (∀ a, a ∈ fp' → a ∈ fp ++ fr) → (∀ ws : List Nat, (∀ j, j ∈ vs → j ∈ ws) → wipe σ' ws = wipe σ ws) → Q σ' H
/-- a target stores into the slots vs -/
def SG (X : Cx) (c : Ctx) (tg : Expr) (vs : List Nat) (g : GT) : Prop := PG X tg (tG c vs g)
def SGs (X : Cx) (c : Ctx) (tgs : List Expr) (vs : List Nat) (gs : List GT) : Prop := PGs X tgs (tGs c vs gs)
theorem pg_imp {X : Cx} {e : Expr} {t t' : TG} (h : PG X e t) (i : ∀ v σ H Q, t' v σ H Q → t v σ H Q) : PG X e t' := ⟨fun pins s σ H v u Q I r q => h.run pins s σ H v u Q I r (i v σ H Q q)⟩
theorem pgs_imp {X : Cx} {e : List Expr} {t t' : TGs} (h : PGs X e t) (i : ∀ v σ H Q, t' v σ H Q → t v σ H Q) : PGs X e t' := ⟨fun pins s σ H v u Q I r q => h.run pins s σ H v u Q I r (i v σ H Q q)⟩
theorem wipe_set {σ : L2.St} {i : Nat} {o : Option V} : ∀ {ws : List Nat}, i ∈ ws → wipe (σ.set i o) ws = wipe σ ws
  | [], h => by cases h
  | w :: ws, h => by
    show (wipe (σ.set i o) ws).set w none = (wipe σ ws).set w none
    by_cases hw : i ∈ ws
    · rw [wipe_set hw]
    · have e : i = w := by
        rcases List.mem_cons.mp h with h | h
        · exact h
        · exact absurd h hw
      subst e
      have key : ∀ {σ : L2.St} {ws : List Nat}, i ∉ ws → wipe (σ.set i o) ws = (wipe σ ws).set i o := by
        intro σ ws
        induction ws generalizing σ with
        | nil => intro _; rfl
        | cons x xs ih =>
          intro hn
          show (wipe (σ.set i o) xs).set x none = ((wipe σ xs).set x none).set i o
          rw [ih (fun z => hn (List.mem_cons_of_mem _ z)), List.set_comm _ _ (fun z => hn (by rw [z]; exact List.mem_cons_self))]
      rw [key hw, List.set_set]
/-- a slot is stored -/
theorem Good.set {I H : Hp} {σ : L2.St} {ρ : List R} {fp fr : List Addr} {i : Nat} {v : V} {r : R} (G : Good c I H σ ρ fp) (h : RepR c I H v r fr) (nd : (fp ++ fr).Nodup) (hi : i ∉ c.pi) :
    ∃ fp', Good c I H (σ.set i (some v)) (ρ.set i r) fp' ∧ ∀ a, a ∈ fp' → a ∈ fp ++ fr := by
  have par : ∀ j, j ∈ c.pi → (σ.set i (some v))[j]? = some (some (c.pv j)) := fun j hj => by
    rw [List.getElem?_set_ne (fun z => hi (by rw [z]; exact hj))]
    exact G.par j hj
  by_cases hl : i < ρ.length
  · obtain ⟨pre, g0, post, e3, _, f⟩ := G.rep.at (List.getElem?_eq_getElem hl)
    have z1 := f I H (some v) r fr ⟨Same.refl _, fun a ha => ⟨rfl, (G.rep.own a (by rw [e3]; simp at ha ⊢; rcases ha with z | z <;> simp [z])).1⟩, fun _ _ z => z⟩ (.inr ⟨v, rfl, h⟩)
    obtain ⟨n1, n2, n3⟩ := nd_app.mp nd
    rw [e3] at n1 n3
    simp only [List.append_assoc] at n1
    obtain ⟨a1, a2, a3⟩ := nd_app.mp n1
    obtain ⟨b1, b2, b3⟩ := nd_app.mp a2
    refine ⟨_, ⟨G.ih, z1, ?_, par, G.tb⟩, fun a ha => ?_⟩
    · simp only [List.append_assoc]
      refine nd_app.mpr ⟨a1, nd_app.mpr ⟨n2, b2, fun a ha hb => n3 a (by simp [hb]) ha⟩, fun a ha hb => ?_⟩
      rcases List.mem_append.mp hb with z | z
      · exact n3 a (by simp [ha]) z
      · exact a3 a ha (List.mem_append_right _ z)
    · rw [e3]
      simp only [List.mem_append] at ha ⊢
      rcases ha with (z | z) | z
      · exact .inl (.inl (.inl z))
      · exact .inr z
      · exact .inl (.inr z)
  · have l1 : ρ.set i r = ρ := List.set_eq_of_length_le (by omega)
    have l2 : σ.set i (some v) = σ := List.set_eq_of_length_le (by have := G.rep.len; omega)
    rw [l2] at par
    exact ⟨fp, ⟨G.ih, by rw [l1, l2]; exact G.rep, G.nd, by rw [l2]; exact par, G.tb⟩, fun a ha => List.mem_append_left _ ha⟩
theorem sg_name {i : Nat} {x : Str} (hi0 : i ∉ c.pi) (hN : X.N.Nodup) (hi : X.N[i]? = some x) (hx : Loc X.env.scope x) (hf : X.fn x = true ∨ X.env.scope.names.lookup x = some .local := by first | exact .inl rfl | exact .inr rfl | assumption) : SG X c (.Name x pos) [i] (gN i) := by
  refine pg_imp (pg_name hN hi hx hf) fun v σ H Q ⟨I, ρ, fp, r, fr, ρ', G, h, nd, e, q⟩ => ?_
  cases e
  obtain ⟨fp', G', m⟩ := G.set h nd hi0
  exact q _ fp' G' m fun ws hw => wipe_set (hw i (List.mem_singleton.mpr rfl))
theorem sgs_nil : SGs X c [] [] [] := by
  refine pgs_imp pgs_nil fun v σ H Q ⟨I, ρ, fp, rs, fr, ρ', G, h, nd, e, q⟩ => ?_
  cases h with
  | nil => cases e; exact ⟨rfl, q σ fp G (fun a ha => by simpa using ha) fun _ _ => rfl⟩
  | cons h1 h2 => cases e
theorem sgs_cons {es : List Expr} {vs ws : List Nat} {g : GT} {gs : List GT} (h1 : SG X c e vs g) (h2 : SGs X c es ws gs)
    (hs : (assignEach (e :: es) X.env).map (·.2) = assign e X.env :: (assignEach es X.env).map (·.2) := by rfl) : SGs X c (e :: es) (vs ++ ws) (g :: gs) := by
  refine pgs_imp (pgs_cons h1 h2 hs) fun us σ H Q ⟨I, ρ, fp, rs, fr, ρ', G, h, nd, e, q⟩ => ?_
  cases h with
  | nil => cases e
  | @cons v r gp us rs ft k1 k2 =>
    simp only [gAll] at e
    cases e1 : g r ρ with
    | none => rw [e1] at e; cases e
    | some ρ1 =>
      rw [e1, Option.bind_some] at e
      obtain ⟨n1, n2, n3⟩ := nd_app.mp nd
      obtain ⟨m1, m2, m3⟩ := nd_app.mp n2
      refine ⟨v, us, rfl, I, ρ, fp, r, gp, ρ1, G, k1, nd_app.mpr ⟨n1, m1, fun a ha hb => n3 a ha (List.mem_append_left _ hb)⟩, e1, fun σ1 fp1 G1 mm w1 => ?_⟩
      refine ⟨I, ρ1, fp1, rs, ft, ρ', G1, k2, nd_app.mpr ⟨G1.nd, m2, fun a ha hb => ?_⟩, e, fun σ2 fp2 G2 mm2 w2 => ?_⟩
      · rcases List.mem_append.mp (mm a ha) with z | z
        · exact n3 a z (List.mem_append_right _ hb)
        · exact m3 a z hb
      · refine q σ2 fp2 G2 (fun a ha => ?_) fun xs hx => (w2 xs fun j hj => hx j (List.mem_append_right _ hj)).trans (w1 xs fun j hj => hx j (List.mem_append_left _ hj))
        rcases List.mem_append.mp (mm2 a ha) with z | z
        · rcases List.mem_append.mp (mm a z) with y | y
          · exact List.mem_append_left _ y
          · exact List.mem_append_right _ (List.mem_append_left _ y)
        · exact List.mem_append_right _ (List.mem_append_right _ z)
theorem repRs_d {I H : Hp} : ∀ {ds : List PyData} {vs : List V}, DpAll c.K I vs ds → RepRs c I H vs (ds.map .d) []
  | [], _, .nil => .nil
  | _ :: _, _, .cons h1 h2 => .cons (gp := []) (.d h1) (repRs_d h2)
theorem dpall_len {K : PySem.W.Frag} {I : Hp} : ∀ {ds : List PyData} {vs : List V}, DpAll K I vs ds → vs.length = ds.length
  | [], _, .nil => rfl
  | _ :: _, _, .cons h1 h2 => by simp [dpall_len h2]
theorem gAll_len : ∀ {gs : List GT} {rs ρ ρ' : List R}, gAll gs rs ρ = some ρ' → rs.length = gs.length
  | [], [], _, _, _ => rfl
  | g :: gs, r :: rs, ρ, ρ', e => by
    simp only [gAll] at e
    cases e1 : g r ρ with
    | none => rw [e1] at e; cases e
    | some ρ1 =>
      rw [e1, Option.bind_some] at e
      simp [gAll_len e]
  | [], _ :: _, _, _, e => by cases e
  | _ :: _, [], _, _, e => by cases e
theorem sg_tup {es : List Expr} {k : Nat} {vs : List Nat} {gs : List GT} (ok : CtxOk X c) (hc : X.calm = true) (h : SGs X c es vs gs) (hn : (assignEach es X.env).length = gs.length := by rfl)
    (hst : (assignEach es X.env).findIdx? (·.1) = none := by rfl) : SG X c (.Tuple es k pos) vs (gT gs) := by
  refine pg_imp (pg_tup hc h hn hst) fun v σ H Q ⟨I, ρ, fp, r, fr, ρ', G, hr, nd, e, q⟩ => ?_
  unfold gT at e
  cases hr with
  | @d v x hd =>
    cases hd with
    | @tup a us ds hs ha =>
      simp only [parts, Option.bind_some] at e
      have l1 := gAll_len e
      rw [List.length_map] at l1
      refine ⟨a, us, rfl, by rw [ok.k]; exact sm_t G.ih hs, by rw [dpall_len ha, l1], I, ρ, fp, _, [], ρ', G, repRs_d ha, nd, e, q⟩
    | _ => cases e
  | @tn p us rs _ h1 h2 =>
    simp only [parts, Option.bind_some] at e
    have l1 := gAll_len e
    exact ⟨p, us, rfl, SqT.of h1, by rw [h2.len, l1], I, ρ, fp, rs, fr, ρ', G, h2, nd, e, q⟩
  | _ => cases e
/-! ### stores -/
def cAsg (f : EF) (g : GT) : SF := fun ρ => (f ρ).bind fun r ρ1 => match g r ρ1 with
  | some ρ2 => .ok .nx ρ2
  | none => .no
def cSet (i : Nat) (f : EF) : SF := fun ρ => (f ρ).bind fun r ρ1 => .ok .nx (ρ1.set i r)
theorem asg_run {te : TE} {i : Nat} (hi0 : i ∉ c.pi) (hf : ∀ σ H Q, tE c E f σ H Q → te σ H Q) {D : Ends} {σ : L2.St} {H : Hp} (h : tS c E (cSet i f) D σ H) : tAsg te (gName i) D σ H := by
  obtain ⟨I, ρ, fp, G, o⟩ := h
  refine hf _ _ _ ⟨I, ρ, fp, G, OutG.imp (OutG.bind o) fun r ρ1 p v I1 H1 fp1 fr G1 r1 nd st => ?_⟩
  obtain ⟨fp', G', m⟩ := G1.set r1 nd hi0
  exact p _ I1 H1 fp' G' (st.less m)
theorem ss_set {i : Nat} {x : Str} {pos' : Pos} (hi0 : i ∉ c.pi) (hN : X.N.Nodup) (hi : X.N[i]? = some x) (hx : Loc X.env.scope x) (he : SE X c E e f) (hs : swapsWith e (some (.Name x pos')) pos.line X.env = pure false := by rfl)
    (hf : X.fn x = true ∨ X.env.scope.names.lookup x = some .local := by first | exact .inl rfl | exact .inr rfl | assumption) : SS X c E (.Assign [.Name x pos'] e pos) (cSet i f) :=
  ps_imp (ps_set hN hi hx he hs hf) fun D σ H h => asg_run hi0 (fun _ _ _ q => q) h
theorem ss_asg {tg : Expr} {vs : List Nat} {g : GT} (he : SE X c E e f) (hg : SG X c tg vs g) (hs : swapsWithSole [tg] e pos.line X.env = pure false := by rfl) (hw : swappedStores [tg] e X.env = pure none := by rfl)
    (h1 : (assignEach [tg] X.env).map (·.2) = [assign tg X.env] := by rfl) : SS X c E (.Assign [tg] e pos) (cAsg f g) := by
  refine ps_imp (ps_asg he hg hs hw h1) fun D σ H ⟨I, ρ, fp, G, o⟩ => ⟨I, ρ, fp, G, OutG.imp (OutG.bind o) fun r ρ1 p v I1 H1 fp1 fr G1 r1 nd st => ?_⟩
  cases e1 : g r ρ1 with
  | none => simp only [e1] at p; exact p.elim
  | some ρ2 =>
    simp only [e1] at p
    exact ⟨I1, ρ1, fp1, r, fr, ρ2, G1, r1, nd, e1, fun σ' fp' G' m _ => p σ' I1 H1 fp' G' (st.less m)⟩
end
end TP
set_option linter.all false
set_option maxRecDepth 100000
set_option maxHeartbeats 2000000
/-! TPi: loops and comprehensions. -/
namespace TP
open PySem PySem.Spec PyProof.Rows L2
variable [TabsOf]
/-! ### what a loop walks -/
abbrev RF := List R → Rs (List PyData)
structure WalkD (c : Ctx) (J : It) (ds : List PyData) (I H : Hp) : Prop where
  ex : ∃ (n : Nat) (G : Hp → Prop) (Y : Nat → Hp → V → Hp → Prop), n = ds.length ∧ Walk J n G Y ∧ (∀ I2 H2, Same I I2 → Same I2 H2 → G H2) ∧
    ∀ i x I1 H1 H2, Same I I1 → Same I1 H1 → Y i H1 x H2 → i < ds.length → ∃ I2 d, ds[i]? = some d ∧ Stp [] I1 H1 [] I2 H2 ∧ Dp c.K I2 x d
def tI (c : Ctx) (E : XK) (src : RF) : TI := fun σ H Rr => ∃ I ρ fp, Good c I H σ ρ fp ∧ OutG c E I H fp (src ρ) fun ds ρ' => ∀ J I' H' fp', Good c I' H' σ ρ' fp' → Stp fp I H fp' I' H' → WalkD c J ds I' H' → Rr J H'
def SI (X : Cx) (c : Ctx) (E : XK) (tg iter : Expr) (src : RF) : Prop := PI X tg iter (tI c E src)
theorem pi_imp {X : Cx} {tg e : Expr} {t t' : TI} (h : PI X tg e t) (i : ∀ σ H Q, t' σ H Q → t σ H Q) : PI X tg e t' := ⟨fun pins s σ H R I q => h.run pins s σ H R I (i σ H R q)⟩
def asL {α : Type} (r : R) (ρ : List R) (k : List PyData → List R → Rs α) : Rs α := match toD r with
  | some (.list ds) => k ds ρ
  | _ => .no
def asTu {α : Type} (r : R) (ρ : List R) (k : List PyData → List R → Rs α) : Rs α := match toD r with
  | some (.tuple ds) => k ds ρ
  | _ => .no
def asS {α : Type} (r : R) (ρ : List R) (k : Str → List R → Rs α) : Rs α := match r with
  | .d (.str z) => k z ρ
  | _ => .no
def sList (f : EF) : RF := fun ρ => (f ρ).bind fun r ρ1 => asL r ρ1 fun ds ρ1 => .ok ds ρ1
def sTup (f : EF) : RF := fun ρ => (f ρ).bind fun r ρ1 => asTu r ρ1 fun ds ρ1 => .ok ds ρ1
def sStr (f : EF) : RF := fun ρ => (f ρ).bind fun r ρ1 => asS r ρ1 fun z ρ1 => .ok (z.cps.toList.map fun k => .str ⟨#[k]⟩) ρ1
noncomputable def rng1 : List PyData → Option (Int × Nat)
  | [.int j] => @ite _ (-(2 ^ 62) ≤ j ∧ j < 2 ^ 62) (Classical.propDecidable _) (some (0, j.toNat)) none
  | _ => none
noncomputable def rng2 : List PyData → Option (Int × Nat)
  | [.int i, .int j] => @ite _ (-(2 ^ 62) ≤ i ∧ i < 2 ^ 62 ∧ -(2 ^ 62) ≤ j ∧ j < 2 ^ 62) (Classical.propDecidable _) (some (i, (j - i).toNat)) none
  | _ => none
def rngD (lo : Int) (n : Nat) : List PyData := (List.range n).map fun (k : Nat) => PyData.int (lo + (k : Int))
def sRng (ro : List PyData → Option (Int × Nat)) (os : List Op) : RF := fun ρ => (cOps os ρ).bind fun hs ρ1 => match (hviews ρ1 hs).bind ro with
  | some z => .ok (rngD z.1 z.2) ρ1
  | none => .no
def sZip (os : List Op) : RF := fun ρ => (cOps os ρ).bind fun hs ρ1 => match (hdRs hs).bind toDs with
  | some [.list xs, .list ys] => .ok (List.zipWith (fun x y => .tuple [x, y]) xs ys) ρ1
  | _ => .no
section
variable {X : Cx} {c : Ctx} {E : XK} {a b e tg : Expr} {pos : Pos} {f : EF}
theorem dpall_at {K : PySem.W.Frag} {I : Hp} : ∀ {ds : List PyData} {vs : List V} {i : Nat} {v : V}, DpAll K I vs ds → vs[i]? = some v → ∃ d, ds[i]? = some d ∧ Dp K I v d
  | [], _, _, _, .nil, e => by simp at e
  | d :: ds, v' :: vs, 0, v, .cons h1 h2, e => by simp at e; subst e; exact ⟨d, rfl, h1⟩
  | d :: ds, v' :: vs, i + 1, v, .cons h1 h2, e => by
    obtain ⟨d', e1, h3⟩ := dpall_at (i := i) h2 (by simpa using e)
    exact ⟨d', by simpa using e1, h3⟩
theorem stp_stay {I H : Hp} (ih : Same I H) : Stp [] I H [] I H := Stp.refl ih
theorem walkD_list {I H : Hp} {p : Addr} {ds : List PyData} (h : Dp c.K I (.ref p) (.list ds)) : WalkD c (Itl c.K p) ds I H := by
  cases h with
  | @lst _ vs _ hs ha =>
    have hl := dpall_len ha
    refine ⟨_, _, _, hl, walk_list (xs := vs), fun I2 H2 i1 i2 => sm_l i2 (sm_l i1 hs), fun i x I1 H1 H2 i1 i2 y hi => ?_⟩
    obtain ⟨rfl, e⟩ := y
    obtain ⟨d, e2, hd⟩ := dpall_at ha e
    exact ⟨I1, d, e2, stp_stay i2, dp_mono i1 _ _ hd⟩
theorem walkD_tup {I H : Hp} {p : Addr} {ds : List PyData} (h : Dp c.K I (.ref p) (.tuple ds)) : WalkD c (Itt c.K p) ds I H := by
  cases h with
  | @tup _ vs _ hs ha =>
    have hl := dpall_len ha
    refine ⟨_, _, _, hl, walk_tup (xs := vs), fun I2 H2 i1 i2 => sm_t i2 (sm_t i1 hs), fun i x I1 H1 H2 i1 i2 y hi => ?_⟩
    obtain ⟨rfl, e⟩ := y
    obtain ⟨d, e2, hd⟩ := dpall_at ha e
    exact ⟨I1, d, e2, stp_stay i2, dp_mono i1 _ _ hd⟩
theorem si_list (ok : CtxOk X c) (h : SE X c E e f) : SI X c E tg e (sList f) := by
  refine pi_imp (pi_list h) fun σ H Rr ⟨I, ρ, fp, G, o⟩ => ⟨I, ρ, fp, G, OutG.imp (OutG.bind o) fun r ρ1 o1 v I1 H1 fp1 fr G1 r1 nd st => ?_⟩
  unfold asL at o1
  split at o1
  · rename_i ds e1
    have dp := r1.frz G1.ih e1
    have G2 := G1.frz r1 nd
    have st2 := st.frz
    cases dp with
    | @lst p vs _ hs ha =>
      refine ⟨p, rfl, ⟨vs, by rw [ok.k]; exact sm_l G2.ih hs⟩, ?_⟩
      rw [ok.k]
      exact o1 _ _ _ _ G2 st2 (walkD_list (.lst hs ha))
  · exact o1.elim
theorem si_tup (ok : CtxOk X c) (h : SE X c E e f) : SI X c E tg e (sTup f) := by
  refine pi_imp (pi_tup h) fun σ H Rr ⟨I, ρ, fp, G, o⟩ => ⟨I, ρ, fp, G, OutG.imp (OutG.bind o) fun r ρ1 o1 v I1 H1 fp1 fr G1 r1 nd st => ?_⟩
  unfold asTu at o1
  split at o1
  · rename_i ds e1
    have dp := r1.frz G1.ih e1
    have G2 := G1.frz r1 nd
    have st2 := st.frz
    cases dp with
    | @tup p vs _ hs ha =>
      refine ⟨p, rfl, ⟨vs, by rw [ok.k]; exact sm_t G2.ih hs⟩, ?_⟩
      rw [ok.k]
      exact o1 _ _ _ _ G2 st2 (walkD_tup (.tup hs ha))
  · exact o1.elim
theorem si_str (h : SE X c E e f) : SI X c E tg e (sStr f) := by
  refine pi_imp (pi_str h) fun σ H Rr ⟨I, ρ, fp, G, o⟩ => ⟨I, ρ, fp, G, OutG.imp (OutG.bind o) fun r ρ1 o1 v I1 H1 fp1 fr G1 r1 nd st => ?_⟩
  unfold asS at o1
  split at o1
  · rename_i z
    cases r1 with
    | d r1 =>
    cases r1
    rw [List.append_nil] at st
    refine ⟨z, rfl, o1 _ _ _ _ G1 st ⟨_, _, _, by rw [List.length_map, Array.length_toList], walk_str (z := z), fun _ _ _ _ => trivial, fun i x I1 H1 H2 i1 i2 y hi => ?_⟩⟩
    · obtain ⟨rfl, k, e1, rfl⟩ := y
      refine ⟨I1, .str ⟨#[k]⟩, ?_, stp_stay i2, .str _⟩
      rw [List.getElem?_map, Array.getElem?_toList, e1]; rfl
  · exact o1.elim
theorem walkD_rng {I H : Hp} {lo : Int} {n : Nat} : WalkD c (Itr lo n) (rngD lo n) I H := by
  refine ⟨n, _, _, by unfold rngD; rw [List.length_map, List.length_range], walk_range (lo := lo), fun _ _ _ _ => trivial, fun i x I1 H1 H2 i1 i2 y hi => ?_⟩
  obtain ⟨rfl, rfl⟩ := y
  refine ⟨I1, .int (lo + i), ?_, stp_stay i2, .int _⟩
  unfold rngD at hi ⊢
  rw [List.length_map, List.length_range] at hi
  simp [hi]
theorem view_i {I H : Hp} {v : V} {i : Int} (h : Vw c I H v (.int i)) : v = .int i := by
  cases h with
  | d h => cases h; rfl
theorem sRng_run {ro : List PyData → Option (Int × Nat)} {os : List Op} {ts : List TE} (ok : CtxOk X c) (tr : Paired (TrO c E) os ts) {σ : L2.St} {H : Hp} {Rr : It → Hp → Prop} (h : tI c E (sRng ro os) σ H Rr) {P : List V → Hp → Prop}
    (hP : ∀ I H vs ds z, VwAll c I H vs ds → ro ds = some z → Rr (Itr z.1 z.2) H → P vs H) : tL ts σ H P := by
  obtain ⟨I, ρ, fp, G, o⟩ := h
  refine ops_run ok.sch tr G o.bind fun hd ρ1 p vs I1 H1 fp1 ft G1 hr nd st => ?_
  have st' : Stp fp I H fp1 I1 H1 := st.less fun x hx => List.mem_append_left _ hx
  cases e2 : hviews ρ1 hd with
  | none => rw [e2] at p; exact p.elim
  | some ds =>
    rw [e2, Option.bind_some] at p
    have hv := hviews_ok G1 hr e2
    cases e1 : ro ds with
    | none => simp only [e1] at p; exact p.elim
    | some z =>
      simp only [e1] at p
      exact hP I1 H1 vs ds z hv e1 (p _ _ _ _ G1 st' walkD_rng)
theorem si_rng1 {p : Pos} {oa : Op} (ok : CtxOk X c) (hg : Gl X "range") (hm : X.mg "range" = none) (ha : SO X c E a oa) (hs : starEach [a] X.env = [(false, eval a X.env)] := by rfl) : SI X c E tg (.Call (.Name "range" p) [a] [] pos) (sRng rng1 [oa]) := by
  obtain ⟨ta, pa, ra⟩ := ha
  refine pi_imp (pi_range1 hg hm (pa_cons pa pa_nil hs) hs) fun σ H Rr h => sRng_run (ts := [ta]) ok (.cons ra .nil) h fun I H vs ds z hv e1 q => ?_
  unfold rng1 at e1
  split at e1
  · rename_i j
    split at e1
    · rename_i hb
      cases e1
      cases hv with
      | cons h1 h2 =>
        cases h2
        have := view_i h1; subst this
        exact ⟨j, rfl, hb.1, hb.2, q⟩
    · cases e1
  · cases e1
theorem si_rng2 {p : Pos} {oa ob : Op} (ok : CtxOk X c) (hg : Gl X "range") (hm : X.mg "range" = none) (ha : SO X c E a oa) (hb : SO X c E b ob) (hs : starEach [a, b] X.env = [(false, eval a X.env), (false, eval b X.env)] := by rfl)
    (hs2 : starEach [b] X.env = [(false, eval b X.env)] := by rfl) : SI X c E tg (.Call (.Name "range" p) [a, b] [] pos) (sRng rng2 [oa, ob]) := by
  obtain ⟨ta, pa, ra⟩ := ha
  obtain ⟨tb, pb, rb⟩ := hb
  refine pi_imp (pi_range2 hg hm (pa_cons pa (pa_cons pb pa_nil hs2) (by rw [hs, hs2])) hs hs2) fun σ H Rr h => sRng_run (ts := [ta, tb]) ok (.cons ra (.cons rb .nil)) h fun I H vs ds z hv e1 q => ?_
  unfold rng2 at e1
  split at e1
  · rename_i i j
    split at e1
    · rename_i hb
      cases e1
      cases hv with
      | cons h1 h2 =>
        cases h2 with
        | cons h2 h3 =>
        cases h3
        have := view_i h1; subst this
        have := view_i h2; subst this
        exact ⟨i, j, rfl, hb, q⟩
    · cases e1
  · cases e1
theorem si_zip {p tpos : Pos} {elts : List Expr} {kk : Nat} {oa ob : Op} (ok : CtxOk X c) (hg : Gl X "zip") (hm : X.mg "zip" = none) (ha : SO X c E a oa) (hb : SO X c E b ob) (hs : starEach [a, b] X.env = (false, eval a X.env) :: starEach [b] X.env := by rfl)
    (hs2 : starEach [b] X.env = (false, eval b X.env) :: starEach [] X.env := by rfl) (hpl : (backTo pos (starEach [b] X.env)).any (·.1) = false := by rfl) :
    SI X c E (.Tuple elts kk tpos) (.Call (.Name "zip" p) [a, b] [] pos) (sZip [oa, ob]) := by
  obtain ⟨ta, pa, ra⟩ := ha
  obtain ⟨tb, pb, rb⟩ := hb
  refine pi_imp (pi_zip hg hm (pa_cons pa (pa_cons pb pa_nil hs2) hs) hs hpl) fun σ H Rr ⟨I, ρ, fp, G, o⟩ => ?_
  show tL [ta, tb] σ H fun vs H1 => ∃ a b xs ys, vs = [.ref a, .ref b] ∧ SqL X.K H1 a xs ∧ SqL X.K H1 b ys ∧ Rr (Itz X.K a b) H1
  refine ops_run ok.sch (.cons ra (.cons rb .nil)) G o.bind fun hd ρ1 p vs I1 H1 fp1 ft G1 hr nd st => ?_
  cases e1 : hdRs hd with
  | none => rw [e1] at p; exact p.elim
  | some rs =>
    rw [e1, Option.bind_some] at p
    have hrs := hdRs_ok hr e1
    cases e2 : toDs rs with
    | none => rw [e2] at p; exact p.elim
    | some ds =>
      rw [e2] at p
      have dps := hrs.toDp (frz_ii (fp := ft) G1.ih) (fun a vs q => frz_tup q) (fun a ha => frz_at ha) e2
      have own := hrs.own
      have G2 : Good c (frz I1 H1 ft) H1 σ ρ1 fp1 := ⟨frz_ih G1.ih, G1.rep.keep ⟨frz_ii G1.ih, fun a ha => ⟨rfl, frz_none (G1.rep.own a ha) fun q => (nd_app.mp nd).2.2 a ha q⟩, fun _ _ e => e⟩, G1.nd, G1.par, G1.tb⟩
      have st2 := st.frz
      split at p
      · rename_i xs ys e3
        cases e3
        cases dps with
        | cons d1 d2 =>
        cases d2 with
        | cons d2 d3 =>
        cases d3
        cases d1 with
        | @lst pa us _ s1 a1 =>
        cases d2 with
        | @lst pb ws _ s2 a2 =>
        refine ⟨pa, pb, us, ws, rfl, by rw [ok.k]; exact sm_l G2.ih s1, by rw [ok.k]; exact sm_l G2.ih s2, p _ _ _ _ G2 st2 ⟨_, _, _, (by rw [List.length_zipWith, ← dpall_len a1, ← dpall_len a2]), by rw [ok.k]; exact walk_zip (xs := us) (ys := ws) rfl, fun I2 H2 i1 i2 => And.intro (sm_l i2 (sm_l i1 s1)) (sm_l i2 (sm_l i1 s2)), fun i x I3 H3 H4 i1 i2 y hi => ?_⟩⟩
        obtain ⟨T, x1, x2, rfl, hT, rfl, q1, q2⟩ := y
        obtain ⟨d1, e1, k1⟩ := dpall_at a1 q1
        obtain ⟨d2, e2, k2⟩ := dpall_at a2 q2
        have stn := stp_newD (o := HO.tup [x1, x2]) i2 hT
        refine ⟨upd I3 T (.tup [x1, x2]), .tuple [d1, d2], ?_, stn, .tup (SqT.of upd_same) (.cons (dp_mono stn.ii _ _ (dp_mono i1 _ _ k1)) (.cons (dp_mono stn.ii _ _ (dp_mono i1 _ _ k2)) .nil))⟩
        rw [List.getElem?_zipWith, e1, e2]
      · exact p.elim
end
/-! ### for, while -/
def forL (g : GT) (s : SF) : List PyData → List R → Rs Fl
  | [], ρ => .ok .nx ρ
  | d :: ds, ρ => match g (.d d) ρ with
    | none => .no
    | some ρ1 => (s ρ1).bind fun fl ρ2 => match fl with
      | .nx => forL g s ds ρ2
      | .ct => forL g s ds ρ2
      | .bk => .ok .nx ρ2
      | .rt r => .ok (.rt r) ρ2
def cFor (src : RF) (g : GT) (s : SF) : SF := fun ρ => (src ρ).bind fun ds ρ1 => forL g s ds ρ1
def cWhile (t : TF) (s : SF) : Nat → SF
  | 0 => fun _ => .no
  | n + 1 => fun ρ => (t ρ).bind fun b ρ1 => if b = true then (s ρ1).bind fun fl ρ2 => (match fl with
      | .nx => cWhile t s n ρ2
      | .ct => cWhile t s n ρ2
      | .bk => .ok .nx ρ2
      | .rt r => .ok (.rt r) ρ2) else .ok .nx ρ1
section
variable {X : Cx} {c : Ctx} {E : XK} {e tg iter : Expr} {body : List Stmt} {pos : Pos} {g : GT} {s : SF} {src : RF} {vs : List Nat} {t : TF}
theorem ss_for (hp : PassesOwn (model X.prog X.w) X.A X.env X.xe) (hc : X.calm = true) (hi : SI X c E tg iter src) (hg : SG X c tg vs g) (hb : SSs X c E body s) (hs : ∀ x, foldedSetIterable iter X.env x = pure x := by intro _; rfl) :
    SS X c E (.For tg iter body [] pos) (cFor src g s) := by
  refine ps_imp (ps_for hp hc hi hg hb hs) fun D σ H ⟨I, ρ, fp, G, o⟩ => ⟨I, ρ, fp, G, OutG.imp (OutG.bind o) fun ds ρ1 o1 J I1 H1 fp1 G1 st1 wd => ?_⟩
  obtain ⟨nw, Gw, Y, rfl, W, wG, wY⟩ := wd
  refine for_it W (fun i σ H2 => ∃ I2 ρ2 fp2, Good c I2 H2 σ ρ2 fp2 ∧ Stp fp I H fp2 I2 H2 ∧ Same I1 I2 ∧ OutG c E I H fp (forL g s (ds.drop i) ρ2) (PostS c I H fp D)) ?_ ?_ ?_ ?_
  · exact ⟨I1, ρ1, fp1, G1, st1, Same.refl _, o1⟩
  · rintro i σ H2 hi ⟨I2, ρ2, fp2, G2, st2, i12, o2⟩
    exact wG I2 H2 i12 G2.ih
  · rintro i x σ H2 H3 hi ⟨I2, ρ2, fp2, G2, st2, i12, o2⟩ y
    obtain ⟨I3, d, ed, st3, dp⟩ := wY i x I2 H2 H3 i12 G2.ih y hi
    rw [List.drop_eq_getElem_cons hi] at o2
    have e9 : ds[i] = d := by
      rw [List.getElem?_eq_getElem hi] at ed
      exact Option.some.inj ed
    rw [e9] at o2
    simp only [forL] at o2
    cases e1 : g (.d d) ρ2 with
    | none => rw [e1] at o2; exact o2.elim
    | some ρ3 =>
      simp only [e1] at o2
      have G3 := G2.new st3
      have st23 : Stp fp I H fp2 I3 H3 := by
        have z := st2.new st3
        rw [List.append_nil] at z; exact z
      refine ⟨I3, ρ2, fp2, .d d, [], ρ3, G3, .d dp, by simpa using G2.nd, e1, fun σ' fp' G' m _ => ?_⟩
      have st4 : Stp fp I H fp' I3 H3 := st23.less fun a ha => by simpa using m a ha
      refine ⟨I3, ρ3, fp', G', ((OutG.bind o2).wx st4).imp fun fl ρ4 p => ?_⟩
      have cont : OutG c E I H fp (forL g s (ds.drop (i + 1)) ρ4) (PostS c I H fp D) → ∀ σ' I' H' fp4, Good c I' H' σ' ρ4 fp4 → Stp fp' I3 H3 fp4 I' H' →
          ∃ I2 ρ2 fp2, Good c I2 H' σ' ρ2 fp2 ∧ Stp fp I H fp2 I2 H' ∧ Same I1 I2 ∧ OutG c E I H fp (forL g s (ds.drop (i + 1)) ρ2) (PostS c I H fp D) := fun oo σ' I' H' fp4 G4 s4 =>
        ⟨I', ρ4, fp4, G4, st4.trans s4, (i12.trans st3.ii).trans s4.ii, oo⟩
      cases fl with
      | nx => exact cont p
      | ct => exact cont p
      | bk => exact PostS.mono (f := .nx) p st4
      | rt r => exact PostS.mono (f := .rt r) p st4
  · rintro σ H2 ⟨I2, ρ2, fp2, G2, st2, i12, o2⟩
    rw [List.drop_length] at o2
    exact o2 σ I2 H2 fp2 G2 st2
theorem ss_while {n : Nat} (hp : PassesOwn (model X.prog X.w) X.A X.env X.xe) (ht : ST X c E e t) (hb : SSs X c E body s) : SS X c E (.While e body [] pos) (cWhile t s n) := by
  refine ps_imp (ps_while hp ht hb) fun D σ H ⟨I, ρ, fp, G, o⟩ => ?_
  refine ⟨fun m σ H2 => ∃ I2 ρ2 fp2, Good c I2 H2 σ ρ2 fp2 ∧ Stp fp I H fp2 I2 H2 ∧ OutG c E I H fp (cWhile t s m ρ2) (PostS c I H fp D), ⟨n, I, ρ, fp, G, Stp.refl G.ih, o⟩, ?_⟩
  rintro m σ H2 ⟨I2, ρ2, fp2, G2, st2, o2⟩
  cases m with
  | zero => exact o2.elim
  | succ m =>
    simp only [cWhile] at o2
    refine ⟨I2, ρ2, fp2, G2, ((OutG.bind o2).wx st2).imp fun b ρ3 p I3 H3 fp3 G3 st3 => ?_⟩
    cases b with
    | false => exact p σ I3 H3 fp3 G3 (st2.trans st3)
    | true =>
      have st4 := st2.trans st3
      refine ⟨fun σ' H' => ∃ I2 ρ2 fp2, Good c I2 H' σ' ρ2 fp2 ∧ Stp fp I H fp2 I2 H' ∧ OutG c E I H fp (cWhile t s m ρ2) (PostS c I H fp D), fun σ' H' h => ⟨m, Nat.lt_succ_self m, h⟩, I3, ρ3, fp3, G3, ((OutG.bind p).wx st4).imp fun fl ρ4 q => ?_⟩
      have cont : OutG c E I H fp (cWhile t s m ρ4) (PostS c I H fp D) → ∀ σ' I' H' fp4, Good c I' H' σ' ρ4 fp4 → Stp fp3 I3 H3 fp4 I' H' →
          ∃ I2 ρ2 fp2, Good c I2 H' σ' ρ2 fp2 ∧ Stp fp I H fp2 I2 H' ∧ OutG c E I H fp (cWhile t s m ρ2) (PostS c I H fp D) := fun oo σ' I' H' fp4 G4 s4 =>
        ⟨I', ρ4, fp4, G4, st4.trans s4, oo⟩
      cases fl with
      | nx => exact cont q
      | ct => exact cont q
      | bk => exact PostS.mono (f := .nx) q st4
      | rt r => exact PostS.mono (f := .rt r) q st4
end
end TP
set_option linter.all false
set_option maxRecDepth 100000
set_option maxHeartbeats 2000000
/-! TPj: comprehensions; a def's body. -/
namespace TP
open PySem PySem.Spec PyProof.Rows L2
variable [TabsOf]
def noEx {α : Type} : Rs α → Rs α
  | .ex _ _ => .no
  | r => r
def slotOk : Option R → Bool
  | some (.d _) => true
  | some .junk => true
  | none => true
  | _ => false
def wipeR (ρ : List R) : List Nat → List R
  | [] => ρ
  | i :: is => (wipeR ρ is).set i .junk
def backR (ρ0 : List R) : List R → List Nat → List R
  | ρ, [] => ρ
  | ρ, i :: is => backR ρ0 (ρ.set i ((ρ0[i]?).getD .junk)) is
def compL (g : GT) (t : TF) (f : EF) (own : List Nat) : List PyData → List PyData → List R → Rs (List PyData)
  | [], acc, ρ => .ok acc ρ
  | d :: ds, acc, ρ => match g (.d d) (wipeR ρ own) with
    | none => .no
    | some ρ1 => (noEx (t ρ1)).bind fun b ρ2 => if b = true then (noEx (f ρ2)).bind fun r ρ3 => (match toD r with
        | some x => if acc.length < 100000 then compL g t f own ds (acc ++ [x]) ρ3 else .no
        | none => .no) else compL g t f own ds acc ρ2
def cComp (src : RF) (own : List Nat) (g : GT) (t : TF) (f : EF) : EF := fun ρ => (src ρ).bind fun ds ρ1 =>
  if own.all (fun i => slotOk ρ1[i]?) = true then (compL g t f own ds [] (wipeR ρ1 own)).bind fun xs ρ2 => .ok (.ol xs) (backR ρ1 (wipeR ρ2 own) own) else .no
def fYes : TF := fun ρ => .ok true ρ
theorem noEx_out {α : Type} {c : Ctx} {E : XK} {I H : Hp} {fp : List Addr} {o : Rs α} {β : Type} {k : α → List R → Rs β} {P : β → List R → Prop} (h : OutG c E I H fp ((noEx o).bind k) P) (E' : XK) (I' H' : Hp) (fp' : List Addr) :
    OutG c E' I' H' fp' o fun a ρ' => OutG c E I H fp (k a ρ') P := by
  cases o with
  | ok a ρ => exact h
  | ex x ρ => exact h.elim
  | no => exact h.elim
section
variable {c : Ctx} {I H : Hp} {σ : L2.St} {ρ : List R} {fp : List Addr}
theorem wipe_at {σ : L2.St} {i : Nat} : ∀ {vs : List Nat}, i ∉ vs → (wipe σ vs)[i]? = σ[i]? := fun h => wipe_out h
theorem wipe_wipe (σ : L2.St) : ∀ vs : List Nat, wipe (wipe σ vs) vs = wipe σ vs := by
  intro vs
  have z : ∀ (is vs : List Nat) (σ : L2.St), (∀ j, j ∈ is → j ∈ vs) → wipe (wipe σ is) vs = wipe σ vs := by
    intro is
    induction is with
    | nil => intro vs σ _; rfl
    | cons i is ih =>
      intro vs σ hj
      show wipe ((wipe σ is).set i none) vs = _
      rw [wipe_set (hj i List.mem_cons_self), ih vs σ fun j hh => hj j (List.mem_cons_of_mem _ hh)]
  exact z vs vs σ fun _ h => h
theorem Good.wipe : ∀ {own : List Nat}, (∀ i, i ∈ own → i ∉ c.pi) → Good c I H σ ρ fp → ∃ fp', Good c I H (wipe σ own) (wipeR ρ own) fp' ∧ ∀ a, a ∈ fp' → a ∈ fp
  | [], _, G => ⟨fp, G, fun _ h => h⟩
  | i :: is, h, G => by
    obtain ⟨fp1, G1, m1⟩ := Good.wipe (own := is) (fun j hj => h j (List.mem_cons_of_mem _ hj)) G
    have par : ∀ j, j ∈ c.pi → ((L2.wipe σ is).set i none)[j]? = some (some (c.pv j)) := fun j hj => by
      rw [List.getElem?_set_ne (fun z => h i List.mem_cons_self (by rw [z]; exact hj))]
      exact G1.par j hj
    show ∃ fp', Good c I H ((L2.wipe σ is).set i none) ((wipeR ρ is).set i .junk) fp' ∧ _
    by_cases hl : i < (wipeR ρ is).length
    · obtain ⟨pre, g0, post, e3, _, f⟩ := G1.rep.at (List.getElem?_eq_getElem hl)
      have z1 := f I H none .junk [] ⟨Same.refl _, fun a ha => ⟨rfl, (G1.rep.own a (by rw [e3]; simp at ha ⊢; rcases ha with z | z <;> simp [z])).1⟩, fun _ _ z => z⟩ (.inl ⟨rfl, rfl⟩)
      have n1 := G1.nd
      rw [e3] at n1
      simp only [List.append_assoc] at n1
      obtain ⟨a1, a2, a3⟩ := nd_app.mp n1
      refine ⟨_, ⟨G1.ih, z1, ?_, par, G1.tb⟩, fun a ha => m1 a ?_⟩
      · simp only [List.append_nil]
        exact nd_app.mpr ⟨a1, (nd_app.mp a2).2.1, fun a ha hb => a3 a ha (List.mem_append_right _ hb)⟩
      · rw [e3]
        simp at ha ⊢
        rcases ha with z | z <;> simp [z]
    · have l1 : (wipeR ρ is).set i .junk = wipeR ρ is := List.set_eq_of_length_le (by omega)
      have l2 : (L2.wipe σ is).set i none = L2.wipe σ is := List.set_eq_of_length_le (by have := G1.rep.len; omega)
      rw [l1, l2]
      exact ⟨fp1, G1, m1⟩
theorem Good.back {ρ0 : List R} {I0 H0 : Hp} {fp0 : List Addr} (G0 : Good c I0 H0 σ ρ0 fp0) (ii : Same I0 I) : ∀ {own : List Nat} {ρ : List R} {fp : List Addr}, own.Nodup → (∀ i, i ∈ own → i ∉ c.pi) → own.all (fun i => slotOk ρ0[i]?) = true → Good c I H (L2.wipe σ own) ρ fp →
    ∃ fp', Good c I H σ (backR ρ0 ρ own) fp' ∧ ∀ a, a ∈ fp' → a ∈ fp
  | [], ρ, fp, _, _, _, G => ⟨fp, G, fun _ h => h⟩
  | i :: is, ρ, fp, nd, h, so, G => by
    obtain ⟨nd1, nd2⟩ := List.nodup_cons.mp nd
    rw [List.all_cons, Bool.and_eq_true] at so
    have hw : L2.wipe σ (i :: is) = (L2.wipe σ is).set i none := rfl
    have hl0 : (L2.wipe σ is).length = σ.length := wipe_length σ is
    have key : ∃ fp1, Good c I H (L2.wipe σ is) (ρ.set i ((ρ0[i]?).getD .junk)) fp1 ∧ ∀ a, a ∈ fp1 → a ∈ fp := by
      by_cases hl : i < ρ.length
      · have hls : i < (L2.wipe σ is).length := by
          have := G.rep.len
          rw [hw, List.length_set] at this
          omega
        obtain ⟨pre, g0, post, e3, _, f⟩ := G.rep.at (List.getElem?_eq_getElem hl)
        have hi0 : i < ρ0.length := by
          have := G0.rep.len
          omega
        have hr : (((ρ0[i]?).getD .junk) = .junk ∧ ([] : List Addr) = []) ∨ ∃ v, σ[i] = some v ∧ RepR c I H v ((ρ0[i]?).getD .junk) [] := by
          obtain ⟨_, _, _, _, h3, _⟩ := G0.rep.at (List.getElem?_eq_getElem hi0)
          have so1 := so.1
          rw [List.getElem?_eq_getElem hi0] at so1 ⊢
          show (ρ0[i] = .junk ∧ _) ∨ ∃ v, σ[i] = some v ∧ RepR c I H v ρ0[i] []
          rcases h3 with z | ⟨v, hv, hr⟩
          · exact .inl ⟨z, rfl⟩
          · have hv' : σ[i] = some v := by
              rw [List.getElem?_eq_getElem (by omega)] at hv
              exact Option.some.inj hv
            generalize e9 : ρ0[i] = r9 at so1 hr
            cases hr with
            | d hd => exact .inr ⟨v, hv', .d (dp_mono ii _ _ hd)⟩
            | junk => exact .inl ⟨rfl, rfl⟩
            | _ => cases so1
        have z1 := f I H σ[i] _ [] ⟨Same.refl _, fun a ha => ⟨rfl, (G.rep.own a (by rw [e3]; simp at ha ⊢; rcases ha with z | z <;> simp [z])).1⟩, fun _ _ z => z⟩ hr
        have es : (L2.wipe σ (i :: is)).set i σ[i] = L2.wipe σ is := by
          rw [hw, List.set_set]
          exact set_self (by rw [wipe_at nd1]; exact List.getElem?_eq_getElem (by omega))
        rw [es] at z1
        have n1 := G.nd
        rw [e3] at n1
        simp only [List.append_assoc] at n1
        obtain ⟨a1, a2, a3⟩ := nd_app.mp n1
        refine ⟨_, ⟨G.ih, z1, ?_, fun j hj => ?_, G.tb⟩, fun a ha => ?_⟩
        · simp only [List.append_nil]
          exact nd_app.mpr ⟨a1, (nd_app.mp a2).2.1, fun a ha hb => a3 a ha (List.mem_append_right _ hb)⟩
        · rw [wipe_at (fun z => h j (List.mem_cons_of_mem _ z) hj)]
          exact G0.par j hj
        · rw [e3]
          simp at ha ⊢
          rcases ha with z | z <;> simp [z]
      · have l1 : ∀ r, ρ.set i r = ρ := fun r => List.set_eq_of_length_le (by omega)
        have l2 : (L2.wipe σ is).set i none = L2.wipe σ is := List.set_eq_of_length_le (by
          have := G.rep.len
          rw [hw, List.length_set] at this
          omega)
        rw [l1]
        rw [hw, l2] at G
        exact ⟨fp, G, fun _ h => h⟩
    obtain ⟨fp1, G1, m1⟩ := key
    obtain ⟨fp2, G2, m2⟩ := Good.back G0 ii (own := is) nd2 (fun j hj => h j (List.mem_cons_of_mem _ hj)) so.2 G1
    exact ⟨fp2, G2, fun a ha => m1 a (m2 a ha)⟩
end
section
variable {X : Cx} {c : Ctx} {E : XK} {e elt tg iter : Expr} {ifs : List Expr} {scope : Scope} {pos : Pos} {g : GT} {f : EF} {src : RF} {vs : List Nat} {t : TF} {own : List (Str × Nat)}
theorem comp_run (hnd : (own.map (·.2)).Nodup) (hpi : ∀ i, i ∈ own.map (·.2) → i ∉ c.pi) (hvs : ∀ j, j ∈ vs → j ∈ own.map (·.2)) {σ : L2.St} {H : Hp} {Q : VK} (h : tE c E (cComp src (own.map (·.2)) g t f) σ H Q) :
    tLc (tI c E src) (tG c vs g) (tT c E0 t) (tE c E0 f) (own.map (·.2)) σ H Q := by
  generalize hown : own.map (·.2) = ow at hnd hpi hvs h ⊢
  obtain ⟨I, ρ, fp, G, o⟩ := h
  refine ⟨I, ρ, fp, G, OutG.imp (OutG.bind o) fun ds ρ1 o1 J I1 H1 fp1 G1 st1 wd D hD => ?_⟩
  obtain ⟨nw, Gw, Y, rfl, W, wG, wY⟩ := wd
  have hso : (ow.all fun i => slotOk ρ1[i]?) = true := by
    split at o1
    · assumption
    · exact o1.elim
  rw [if_pos hso] at o1
  have stD := stp_new (o := HO.lst []) G1.ih hD
  have G1D := G1.new stD
  have ndD := nd_new G1 stD (by simp)
  have st1D : Stp fp I H (fp1 ++ [D]) I1 (upd H1 D (.lst [])) := st1.new stD
  obtain ⟨fw, Gw0, mw⟩ := G1D.wipe hpi
  let Pv : Nat → Hp → Prop := fun i H2 => ∃ I2 ρ2 fp2 acc us, Good c I2 H2 (wipe σ ow) (wipeR ρ2 ow) fp2 ∧ H2 D = some (.lst us) ∧ I2 D = none ∧ D ∉ fp2 ∧ DpAll c.K I2 us acc ∧ Stp fp I H (fp2 ++ [D]) I2 H2 ∧ Same I1 I2 ∧ us.length ≤ 100000 ∧
    OutG c E I H fp (compL g t f ow (ds.drop i) acc ρ2) fun xs ρ3 => PostE c I H fp σ Q (.ol xs) (backR ρ1 (wipeR ρ3 ow) ow)
  have dapp : ∀ (I2 H2 : Hp) (us : List V), H2 D = some (.lst us) → I2 D = none → ∀ a, a ∈ [D] → OwnA I2 H2 a := fun I2 H2 us e1 e2 a ha => by
    rw [List.mem_singleton.mp ha]
    exact ⟨e2, _, e1, (fun _ z => nomatch z), fun _ z => nomatch z⟩
  have dstep : ∀ {f2 : List Addr} {I2 H2 : Hp} {f3 : List Addr} {I3 H3 : Hp} {us : List V}, Stp f2 I2 H2 f3 I3 H3 → H2 D = some (.lst us) → I2 D = none → D ∉ f2 → H3 D = some (.lst us) ∧ I3 D = none ∧ D ∉ f3 := fun {f2 I2 H2 f3 I3 H3 us} st e1 e2 e3 => by
    have k := st.kept (dapp I2 H2 us e1 e2) (fun a ha => by rw [List.mem_singleton.mp ha]; exact e3)
    obtain ⟨k1, k2⟩ := k.own D (by simp)
    exact ⟨k1.trans e1, k2, st.apart (dapp I2 H2 us e1 e2) (fun a ha => by rw [List.mem_singleton.mp ha]; exact e3) D (by simp)⟩
  refine lc_it W Pv ?_ ?_ ?_ ?_
  · refine ⟨I1, wipeR ρ1 ow, fw, [], [], ?_, upd_same, G1.ih.free hD, fun hd => ?_, .nil, st1D.less fun a ha => ?_, Same.refl _, Nat.zero_le _, ?_⟩
    · have e2 : wipeR (wipeR ρ1 ow) ow = wipeR ρ1 ow := by
        have key : ∀ (is : List Nat) (ρ : List R), (∀ j, j ∈ is → ρ[j]? = some .junk ∨ ρ[j]? = none) → wipeR ρ is = ρ := by
          intro is
          induction is with
          | nil => intro ρ _; rfl
          | cons i is ih =>
            intro ρ hj
            show (wipeR ρ is).set i .junk = ρ
            rw [ih ρ fun j hh => hj j (List.mem_cons_of_mem _ hh)]
            rcases hj i List.mem_cons_self with z | z
            · exact set_self z
            · exact List.set_eq_of_length_le (List.getElem?_eq_none_iff.mp z)
        refine key ow _ fun j hj => ?_
        have : ∀ (is : List Nat), j ∈ is → (wipeR ρ1 is)[j]? = some .junk ∨ (wipeR ρ1 is)[j]? = none := by
          intro is
          induction is with
          | nil => intro z; cases z
          | cons i is ih =>
            intro hm
            show ((wipeR ρ1 is).set i .junk)[j]? = _ ∨ ((wipeR ρ1 is).set i .junk)[j]? = _
            by_cases hij : i = j
            · subst hij
              by_cases hl : i < (wipeR ρ1 is).length
              · exact .inl (List.getElem?_set_self hl)
              · exact .inr (List.getElem?_eq_none_iff.mpr (by rw [List.length_set]; omega))
            · rw [List.getElem?_set_ne hij]
              exact ih ((List.mem_cons.mp hm).resolve_left fun z => hij z.symm)
        exact this ow hj
      rw [e2]; exact Gw0
    · exact (nd_app.mp ndD).2.2 D (mw D hd) (by simp)
    · simp only [List.mem_append] at ha ⊢
      rcases ha with z | z
      · exact .inl (mw a z)
      · exact .inr z
    · exact OutG.bind o1
  · rintro i H2 hi ⟨I2, ρ2, fp2, acc, us, G2, _, _, _, _, _, i12, _⟩
    exact wG I2 H2 i12 G2.ih
  · rintro i x H2 H3 hi ⟨I2, ρ2, fp2, acc, us, G2, hD2, hI2, hf2, dpa, st2, i12, hlen, o2⟩ y
    obtain ⟨I3, d, ed, st3, dp⟩ := wY i x I2 H2 H3 i12 G2.ih y hi
    rw [List.drop_eq_getElem_cons hi] at o2
    have e9 : ds[i] = d := by
      rw [List.getElem?_eq_getElem hi] at ed
      exact Option.some.inj ed
    rw [e9] at o2
    simp only [compL] at o2
    cases e1 : g (.d d) (wipeR ρ2 ow) with
    | none => rw [e1] at o2; exact o2.elim
    | some ρ3 =>
      simp only [e1] at o2
      have G3 := G2.new st3
      obtain ⟨hD3, hI3, _⟩ := dstep st3 hD2 hI2 (by simp)
      have st23 : Stp fp I H (fp2 ++ [D]) I3 H3 := by
        have z := st2.new st3
        rw [List.append_nil] at z; exact z
      refine ⟨I3, wipeR ρ2 ow, fp2, .d d, [], ρ3, G3, .d dp, by simpa using G2.nd, e1, fun σ' fp' G' m w1 => ⟨?_, ?_⟩⟩
      · rw [w1 ow hvs, wipe_wipe]
      have hf' : D ∉ fp' := fun z => hf2 (by simpa using m D z)
      have st4 : Stp fp I H (fp' ++ [D]) I3 H3 := st23.less fun a ha => by
        simp only [List.mem_append] at ha ⊢
        rcases ha with z | z
        · exact .inl (by simpa using m a z)
        · exact .inr z
      refine ⟨I3, ρ3, fp', G', (noEx_out o2 E0 I3 H3 fp').imp fun b ρ4 o4 I4 H4 fp4 G4 s4 => ?_⟩
      obtain ⟨hD4, hI4, hf4⟩ := dstep s4 hD3 hI3 hf'
      have wσ : wipe σ' ow = wipe σ ow := by rw [w1 ow hvs, wipe_wipe]
      have st5 : Stp fp I H (fp4 ++ [D]) I4 H4 := st4.trans s4.beside
      have dpa4 := dpall_mono ((i12.trans (st3.ii)).trans s4.ii |> fun z => (st3.ii.trans s4.ii)) _ _ dpa
      cases b with
      | false =>
        show Pv (i + 1) H4
        obtain ⟨f5, G5, m5⟩ := G4.wipe hpi
        rw [wσ] at G5
        exact ⟨I4, ρ4, f5, acc, us, G5, hD4, hI4, fun z => hf4 (m5 D z), dpa4, st5.less (fun a ha => by
          simp only [List.mem_append] at ha ⊢
          rcases ha with z | z
          · exact .inl (m5 a z)
          · exact .inr z), (i12.trans st3.ii).trans s4.ii, hlen, o4⟩
      | true =>
        refine ⟨I4, ρ4, fp4, G4, (noEx_out o4 E0 I4 H4 fp4).imp fun r ρ5 o5 v I5 H5 fp5 fr G5 r5 nd5 s5 => ?_⟩
        cases e5 : toD r with
        | none => simp only [e5] at o5; exact o5.elim
        | some z =>
          simp only [e5] at o5
          have hacc : acc.length < 100000 := by
            split at o5
            · assumption
            · exact o5.elim
          rw [if_pos hacc] at o5
          obtain ⟨hD5, hI5, hf5⟩ := dstep s5 hD4 hI4 hf4
          have hf5' : D ∉ fp5 := fun q => hf5 (List.mem_append_left _ q)
          have hfr : D ∉ fr := fun q => hf5 (List.mem_append_right _ q)
          have dpz := r5.frz G5.ih e5
          have G6 := G5.frz r5 nd5
          have s6 := s5.frz
          have hI6 : frz I5 H5 fr D = none := frz_none ⟨hI5, _, hD5, (fun _ q => nomatch q), fun _ q => nomatch q⟩ hfr
          have hul : us.length < 100000 := by rw [dpall_len dpa4]; exact hacc
          refine ⟨us, hD5, lt_line hul, ?_⟩
          have sU : Same (frz I5 H5 fr) (upd H5 D (.lst (us ++ [v]))) := (Stp.ofUpd (u := .lst (us ++ [v])) G6.ih hD5 hI6 (fun _ z => nomatch z) (fun _ z => nomatch z) fun _ z => nomatch z).ih
          have stU : Stp [D] (frz I5 H5 fr) H5 [D] (frz I5 H5 fr) (upd H5 D (.lst (us ++ [v]))) :=
            Stp.ofUpd G6.ih hD5 hI6 (fun _ z => nomatch z) (fun _ z => nomatch z) fun _ z => nomatch z
          have kpU := stU.kept G6.rep.own (fun a ha hb => by rw [List.mem_singleton] at hb; subst hb; exact hf5' ha)
          have G7 : Good c (frz I5 H5 fr) (upd H5 D (.lst (us ++ [v]))) σ' ρ5 fp5 := ⟨sU, G6.rep.keep kpU, G6.nd, G6.par, stU.tb G6.tb⟩
          obtain ⟨f8, G8, m8⟩ := G7.wipe hpi
          rw [wσ] at G8
          have s46 : Stp fp I H (fp5 ++ [D]) (frz I5 H5 fr) H5 := st5.trans s6.beside
          have s47 : Stp fp I H (fp5 ++ [D]) (frz I5 H5 fr) (upd H5 D (.lst (us ++ [v]))) := by
            refine (s46.trans ((stU.beside (gp := fp5)).more fun a ha => ?_)).less fun a ha => ?_
            · simp only [List.mem_append] at ha ⊢
              rcases ha with z | z
              · exact .inr z
              · exact .inl z
            · simp only [List.mem_append] at ha ⊢
              rcases ha with z | z
              · exact .inr z
              · exact .inl z
          refine ⟨frz I5 H5 fr, ρ5, f8, acc ++ [z], us ++ [v], G8, upd_same, hI6, fun q => hf5' (m8 D q), ?_, s47.less (fun a ha => by
            simp only [List.mem_append] at ha ⊢
            rcases ha with q | q
            · exact .inl (m8 a q)
            · exact .inr q), ((i12.trans st3.ii).trans s4.ii).trans s6.ii, by simp; omega, o5⟩
          have q1 := dpall_mono s6.ii _ _ dpa4
          have app : ∀ {us : List V} {acc : List PyData}, DpAll c.K (frz I5 H5 fr) us acc → DpAll c.K (frz I5 H5 fr) (us ++ [v]) (acc ++ [z]) := by
            intro us acc h
            induction acc generalizing us with
            | nil => cases h; exact .cons dpz .nil
            | cons x xs ih => cases h with | cons h1 h2 => exact .cons h1 (ih h2)
          exact app q1
  · rintro H2 ⟨I2, ρ2, fp2, acc, us, G2, hD2, hI2, hf2, dpa, st2, i12, hlen, o2⟩
    rw [List.drop_length] at o2
    obtain ⟨f3, G3, m3⟩ := Good.back (G1D) i12 hnd hpi hso G2
    refine o2 (.ref D) I2 H2 f3 [D] G3 (.ol hD2 hI2 dpa) (nd_app.mpr ⟨G3.nd, by simp, fun a ha hb => ?_⟩) (st2.less fun a ha => ?_)
    · rw [List.mem_singleton] at hb; subst hb; exact hf2 (m3 _ ha)
    · simp only [List.mem_append] at ha ⊢
      rcases ha with z | z
      · exact .inl (m3 a z)
      · exact .inr z
theorem se_comp (hc : X.calm = true) (hN : X.N.Nodup) (hi : SI X c E tg iter src) (ok : BlkOk X.N X.env.scope scope own) (hnd : (own.map (·.2)).Nodup) (hpi : ∀ i, i ∈ own.map (·.2) → i ∉ c.pi) (hvs : ∀ j, j ∈ vs → j ∈ own.map (·.2))
    (hg : ∀ (s : Shared) (H : Hp) (C : Addr) (cl : List (Str × Addr)) (fp : List Addr), SG (X.blk s H scope (compEnvC scope cl C X.env) fp) c tg vs g)
    (ht : ∀ (s : Shared) (H : Hp) (C : Addr) (cl : List (Str × Addr)) (fp : List Addr), PTs (X.blk s H scope (compEnvC scope cl C X.env) fp) ifs (tT c E0 t))
    (he : ∀ (s : Shared) (H : Hp) (C : Addr) (cl : List (Str × Addr)) (fp : List Addr), SE (X.blk s H scope (compEnvC scope cl C X.env) fp) c E0 elt f) (hs : ∀ x, foldedSetIterable iter X.env x = pure x := by intro _; rfl) :
    SE X c E (.ListComp elt [⟨tg, iter, ifs, 0⟩] scope pos) (cComp src (own.map (·.2)) g t f) :=
  pe_imp (pe_lc hc hN hi ok hg ht he hs) fun σ H Q h => comp_run hnd hpi hvs h
theorem pts_yes {X : Cx} : PTs X [] (tT c E0 fYes) := ⟨fun pins s σ H Q I ⟨_, _, _, G, o⟩ => wpAny_tests_nil ⟨H, I, o _ _ _ G (Stp.refl G.ih)⟩⟩
theorem pts_if {X : Cx} (h : ST X c E0 e t) : PTs X [e] (tT c E0 t) := pts_one h
/-- name = [..] on one line -/
theorem ss_setcomp {i : Nat} {y : Str} {py spos : Pos} (hi0 : i ∉ c.pi) (hc : X.calm = true) (hN : X.N.Nodup) (hy : X.N[i]? = some y) (hyl : X.env.scope.names.lookup y = some .local)
    (hsw : swapsWith (.ListComp elt [⟨tg, iter, ifs, 0⟩] scope pos) (some (.Name y py)) spos.line X.env = pure true)
    (hi : SI X c E tg iter src) (ok : BlkOk X.N X.env.scope scope own) (hnd : (own.map (·.2)).Nodup) (hpi : ∀ i, i ∈ own.map (·.2) → i ∉ c.pi) (hvs : ∀ j, j ∈ vs → j ∈ own.map (·.2))
    (hg : ∀ (s : Shared) (H : Hp) (C : Addr) (cl : List (Str × Addr)) (fp : List Addr), SG (X.blk s H scope (compEnvC scope cl C X.env) fp) c tg vs g)
    (ht : ∀ (s : Shared) (H : Hp) (C : Addr) (cl : List (Str × Addr)) (fp : List Addr), PTs (X.blk s H scope (compEnvC scope cl C X.env) fp) ifs (tT c E0 t))
    (he : ∀ (s : Shared) (H : Hp) (C : Addr) (cl : List (Str × Addr)) (fp : List Addr), SE (X.blk s H scope (compEnvC scope cl C X.env) fp) c E0 elt f) (hs : ∀ x, foldedSetIterable iter X.env x = pure x := by intro _; rfl) :
    SS X c E (.Assign [.Name y py] (.ListComp elt [⟨tg, iter, ifs, 0⟩] scope pos) spos) (cSet i (cComp src (own.map (·.2)) g t f)) :=
  ps_imp (ps_setLc hc hN hy hyl hsw hi ok hg ht he hs) fun D σ H h => asg_run hi0 (fun σ H Q h => comp_run hnd hpi hvs h) h
end
/-! ### a def by its body -/
/-- the slots at the entry -/
def runG (body : SF) (n np : Nat) : GF := fun rs => if rs.length = np then (match body (rs ++ List.replicate (n - np) .junk) with
  | .ok (.rt r) ρ => .ok r (ρ.take np)
  | .ok .nx ρ => .ok (.d .none) (ρ.take np)
  | .ex x ρ => .ex x (ρ.take np)
  | _ => .no) else .no
theorem runG_len {c : Ctx} {body : SF} {n np : Nat} {vs : List V} {H : Hp} {Q : VK} {E : XK} (h : spG c (runG body n np) vs H Q E) : vs.length = np := by
  obtain ⟨I, rs, fp, ih, tb, hr, nd, m⟩ := h
  rw [hr.len]
  by_cases h : rs.length = np
  · exact h
  · unfold runG at m
    rw [if_neg h] at m
    exact m.elim
section
variable {c : Ctx} {I H : Hp}
theorem repE_junk : ∀ n : Nat, RepE c I H (List.replicate n none) (List.replicate n .junk) []
  | 0 => .nil
  | n + 1 => .unset (repE_junk n)
theorem repE_start : ∀ {vs : List V} {rs : List R} {fp : List Addr} (n : Nat), RepRs c I H vs rs fp → RepE c I H (vs.map some ++ List.replicate n none) (rs ++ List.replicate n .junk) fp
  | [], [], _, n, .nil => repE_junk n
  | v :: vs, r :: rs, _, n, .cons h1 h2 => .cons h1 (repE_start n h2)
theorem repE_take : ∀ {vs : List V} {σ : L2.St} {ρ : List R} {fp : List Addr}, RepE c I H σ ρ fp → (∀ (i : Nat) (v : V), vs[i]? = some v → σ[i]? = some (some v)) → ∃ f1 f2, fp = f1 ++ f2 ∧ RepRs c I H vs (ρ.take vs.length) f1
  | [], σ, ρ, fp, h, _ => ⟨[], fp, rfl, by simpa using RepRs.nil⟩
  | v :: vs, _, _, _, .nil, hv => by
    have := hv 0 v rfl
    simp at this
  | v :: vs, o :: σ, _, _, .unset (fp := fp) h, hv => by
    obtain ⟨f1, f2, e, r⟩ := repE_take (vs := vs) h (fun i w hi => by simpa using hv (i + 1) w (by simpa using hi))
    exact ⟨[] ++ f1, f2, by simpa using e, .cons .junk r⟩
  | v :: vs, _, _, _, .cons (gp := gp) h1 h, hv => by
    obtain ⟨f1, f2, e, r⟩ := repE_take (vs := vs) h (fun i w hi => by simpa using hv (i + 1) w (by simpa using hi))
    have z := hv 0 v rfl
    simp at z; subst z
    exact ⟨gp ++ f1, f2, by rw [e]; simp, .cons h1 r⟩
/-- THE RULE: the reading of a body that computes s -/
theorem body_run {s : SF} {E : XK} {N ps : List Str} {vs : List V} {H : Hp} {Q : VK} (h : spG c (runG s N.length ps.length) vs H Q E) (hpi : c.pi = List.range ps.length) (hpv : ∀ (i : Nat) (v : V), vs[i]? = some v → c.pv i = v) :
    tS c E s { nx := fun _ H' => Q .non H', rt := Q } (L2.start N vs) H := by
  have hl := runG_len h
  obtain ⟨I, rs, fp, ih, tb, hr, nd, m⟩ := h
  have hrl := hr.len
  have G : Good c I H (L2.start N vs) (rs ++ List.replicate (N.length - ps.length) .junk) fp := by
    refine ⟨ih, ?_, nd, fun i hi => ?_, tb⟩
    · unfold L2.start
      rw [hl]
      exact repE_start _ hr
    · rw [hpi, List.mem_range] at hi
      have hi' : i < vs.length := by omega
      unfold L2.start
      rw [List.getElem?_append_left (by simpa using hi'), List.getElem?_map, List.getElem?_eq_getElem hi']
      rw [hpv i _ (List.getElem?_eq_getElem hi')]; rfl
  have hpar : ∀ {I' H' : Hp} {σ' : L2.St} {ρ' : List R} {fp' : List Addr}, Good c I' H' σ' ρ' fp' → ∃ f1 f2, fp' = f1 ++ f2 ∧ RepRs c I' H' vs (ρ'.take ps.length) f1 := fun {I' H' σ' ρ' fp'} G' => by
    have := repE_take (vs := vs) G'.rep (fun i v hv => by
      have hi : i < vs.length := (List.getElem?_eq_some_iff.mp hv).1
      rw [← hpv i v hv]
      exact G'.par i (by rw [hpi, List.mem_range]; omega))
    rw [hl] at this
    exact this
  refine ⟨I, _, fp, G, ?_⟩
  unfold runG at m
  rw [if_pos (hrl.symm.trans hl)] at m
  cases e : s (rs ++ List.replicate (N.length - ps.length) .junk) with
  | no => rw [e] at m; exact m.elim
  | ex x ρ' =>
    rw [e] at m
    intro σ' I' H' fp' G' st
    obtain ⟨f1, f2, e1, r1⟩ := hpar G'
    have nd' := G'.nd
    rw [e1] at nd'
    exact m I' H' f1 G'.ih r1 (nd_app.mp nd').1 (st.less fun a ha => by rw [e1]; exact List.mem_append_left _ ha)
  | ok fl ρ' =>
    rw [e] at m
    cases fl with
    | bk => exact m.elim
    | ct => exact m.elim
    | nx =>
      intro σ' I' H' fp' G' st
      obtain ⟨f1, f2, e1, r1⟩ := hpar G'
      have nd' := G'.nd
      rw [e1] at nd'
      exact m .non I' H' f1 [] G'.ih r1 (.d .non) (by simpa using (nd_app.mp nd').1) (st.less fun a ha => by rw [e1]; simp at ha ⊢; exact .inl ha)
    | rt r =>
      intro v σ' I' H' fp' fr G' hr' ndd st
      obtain ⟨f1, f2, e1, r1⟩ := hpar G'
      rw [e1] at ndd st
      obtain ⟨n1, n2, n3⟩ := nd_app.mp ndd
      refine m v I' H' f1 fr G'.ih r1 hr' (nd_app.mpr ⟨(nd_app.mp n1).1, n2, fun a ha hb => n3 a (List.mem_append_left _ ha) hb⟩) (st.less fun a ha => ?_)
      simp only [List.mem_append] at ha ⊢
      rcases ha with z | z
      · exact .inl (.inl z)
      · exact .inr z
end
end TP
set_option linter.all false
set_option maxRecDepth 100000
set_option maxHeartbeats 2000000
/-! TPk: what is written at a place: methods of lists and dicts, stores, fields; calls that read an owned thing. -/
namespace TP
open PySem PySem.Spec PyProof.Rows L2
variable [TabsOf]
/-! ### one hole -/
section
variable {c : Ctx} {E : XK} {I H I' H' : Hp} {σ : L2.St} {ρ : List R} {fp gp : List Addr} {i : Nat} {π : List (Sx × Nat)} {r : R} {v : V}
/-- at a place something is done, with temporaries ft; r' stands there then -/
theorem hole {ft gp' fr : List Addr} {r' : R} (G : Good c I H σ ρ fp) (s : Sub c I H σ ρ fp i π r v gp) (nd : (fp ++ ft).Nodup) (st : Stp (gp ++ ft) I H (gp' ++ fr) I' H') (nd' : (gp' ++ fr).Nodup) (h : RepR c I' H' v r' gp') :
    ∃ fp', Good c I' H' σ (setP ρ i π r') fp' ∧ (fp' ++ fr).Nodup ∧ Stp (fp ++ ft) I H (fp' ++ fr) I' H' := by
  obtain ⟨pre, post, e, f⟩ := s.fill
  obtain ⟨n1, n2, n3⟩ := nd_app.mp nd
  have n1' := n1
  rw [e] at n1'
  simp only [List.append_assoc] at n1'
  obtain ⟨a1, a2, a3⟩ := nd_app.mp n1'
  obtain ⟨b1, b2, b3⟩ := nd_app.mp a2
  have inFp : ∀ a, a ∈ pre ++ post → a ∈ fp := fun a ha => by
    rw [e]; simp only [List.mem_append] at ha ⊢
    rcases ha with z | z
    · exact .inl (.inl z)
    · exact .inr z
  have own : ∀ a, a ∈ pre ++ post → OwnA I H a := fun a ha => G.rep.own a (inFp a ha)
  have dis : ∀ a, a ∈ pre ++ post → a ∉ gp ++ ft := fun a ha hb => by
    rcases List.mem_append.mp hb with z | z
    · rcases List.mem_append.mp ha with y | y
      · exact a3 a y (List.mem_append_left _ z)
      · exact b3 a z y
    · exact n3 a (inFp a ha) z
  have kp := st.kept own dis
  have ap := st.apart own dis
  obtain ⟨m1, m2, m3⟩ := nd_app.mp nd'
  have ndf : (pre ++ gp' ++ post).Nodup := by
    simp only [List.append_assoc]
    refine nd_app.mpr ⟨a1, nd_app.mpr ⟨m1, b2, fun a ha hb => ap a (List.mem_append_right _ hb) (List.mem_append_left _ ha)⟩, fun a ha hb => ?_⟩
    rcases List.mem_append.mp hb with z | z
    · exact ap a (List.mem_append_left _ ha) (List.mem_append_left _ z)
    · exact a3 a ha (List.mem_append_right _ z)
  refine ⟨pre ++ gp' ++ post, ⟨st.ih, f I' H' r' gp' kp h, ndf, fun j hj => G.par j hj, st.tb G.tb⟩, nd_app.mpr ⟨ndf, m2, fun a ha hb => ?_⟩, ?_⟩
  · simp only [List.mem_append] at ha
    rcases ha with (z | z) | z
    · exact ap a (List.mem_append_left _ z) (List.mem_append_right _ hb)
    · exact m3 a z hb
    · exact ap a (List.mem_append_right _ z) (List.mem_append_right _ hb)
  · refine ((st.beside (gp := pre ++ post)).more fun a ha => ?_).less fun a ha => ?_
    · simp only [List.mem_append] at ha ⊢
      rw [e]
      simp only [List.mem_append]
      rcases ha with (z | z) | z | z
      · exact .inl (.inl (.inr z))
      · exact .inr z
      · exact .inl (.inl (.inl z))
      · exact .inl (.inr z)
    · simp only [List.mem_append] at ha ⊢
      rcases ha with ((z | z) | z) | z
      · exact .inr (.inl z)
      · exact .inl (.inl z)
      · exact .inr (.inr z)
      · exact .inl (.inr z)
end
/-! ### arguments as what they are -/
/-- temporaries; data in slots, at places -/
def hdArgs (ρ : List R) : List Hd → Option (List R)
  | [] => some []
  | .t r :: hs => (hdArgs ρ hs).map (r :: ·)
  | .s i :: hs => (match ρ[i]? with
    | some (.d x) => (hdArgs ρ hs).map (.d x :: ·)
    | _ => none)
  | .p i π :: hs => (match getP ρ i π with
    | some (.d x) => (hdArgs ρ hs).map (.d x :: ·)
    | _ => none)
theorem hdArgs_ok {c : Ctx} {I H : Hp} {σ : L2.St} {ρ : List R} {fp : List Addr} (G : Good c I H σ ρ fp) : ∀ {hs : List Hd} {vs : List V} {ft : List Addr} {rs : List R}, HdR c I H σ ρ fp hs vs ft → hdArgs ρ hs = some rs → RepRs c I H vs rs ft
  | [], _, _, _, .nil, e => by cases e; exact .nil
  | h :: hs, v :: vs, _, rs, hr, e => by
    cases hr with
    | t h1 h2 =>
      simp only [hdArgs] at e
      cases e2 : hdArgs ρ hs with
      | none => rw [e2] at e; cases e
      | some rs' => rw [e2] at e; cases e; exact .cons h1 (hdArgs_ok G h2 e2)
    | @s i _ _ _ _ hv h2 =>
      simp only [hdArgs] at e
      split at e
      · rename_i x e1
        cases e2 : hdArgs ρ hs with
        | none => rw [e2] at e; cases e
        | some rs' =>
          rw [e2] at e; cases e
          obtain ⟨_, gp, _, _, h3, _⟩ := G.rep.at e1
          rcases h3 with z | ⟨v', h4, h5⟩
          · cases z
          · rw [hv] at h4; cases h4
            cases h5 with
            | d hd => exact .cons (gp := []) (.d hd) (hdArgs_ok G h2 e2)
      · cases e
    | @p i π r _ gp _ _ _ h1 h2 =>
      simp only [hdArgs] at e
      split at e
      · rename_i x e1
        cases e2 : hdArgs ρ hs with
        | none => rw [e2] at e; cases e
        | some rs' =>
          rw [e2] at e; cases e
          rw [h1.get] at e1; cases e1
          have z := h1.rep
          cases z with
          | d hd => exact .cons (gp := []) (.d hd) (hdArgs_ok G h2 e2)
      · cases e
/-! ### methods that write -/
/-- of a built-in method: what the thing is then, what is handed back -/
def MOk (c : Ctx) (m : R → List R → Option (R × R)) (rd : V → List V → Hp → VK → Prop) : Prop :=
  ∀ (I H : Hp) (v : V) (r1 : R) (gp : List Addr) (vs : List V) (rs : List R) (ft : List Addr) (r1' res : R) (Q : VK), Same I H → RepR c I H v r1 gp → RepRs c I H vs rs ft → (gp ++ ft).Nodup → m r1 rs = some (r1', res) →
    (∀ vres I' H' gp' fr, Stp (gp ++ ft) I H (gp' ++ fr) I' H' → (gp' ++ fr).Nodup → RepR c I' H' v r1' gp' → RepR c I' H' vres res fr → Q vres H') → rd v vs H Q
/-- the thing's type, whatever is asked of it -/
def tBMG (TyP : V → Hp → Prop) (r : V → List V → Hp → VK → Prop) (to : TE) (t : TA) : TE := fun σ H Q => to σ H fun x H1 => TyP x H1 ∧ t σ H1 fun xs H2 => r x xs H2 Q
def TyOkG (c : Ctx) (TyP : V → Hp → Prop) (ty : R → Bool) : Prop := ∀ (I H : Hp) (v : V) (r : R) (gp : List Addr), RepR c I H v r gp → ty r = true → TyP v H
def TyOk (c : Ctx) (T : String) (ty : R → Bool) : Prop := ∀ (I H : Hp) (v : V) (r : R) (gp : List Addr), RepR c I H v r gp → ty r = true → tyV c.K T v H
def cMut (i : Nat) (π : List (Sx × Nat)) (ty : R → Bool) (m : R → List R → Option (R × R)) (os : List Op) : EF := fun ρ => match getP ρ i π with
  | some r0 => if ty r0 = true ∧ (π = [] ∨ os.all Op.quiet = true) then (cOps os ρ).bind fun hs ρ1 => match getP ρ1 i π, hdArgs ρ1 hs with
      | some r1, some rs => if isJ r1 = true then .no else (match m r1 rs with
        | some z => .ok z.2 (setP ρ1 i π z.1)
        | none => .no)
      | _, _ => .no
    else .no
  | none => .no
def isList : R → Bool
  | .ol _ => true
  | .on _ => true
  | _ => false
def isDict : R → Bool
  | .dt _ => true
  | .dk _ _ => true
  | _ => false
theorem ty_list {c : Ctx} : TyOk c "list" isList := fun I H v r gp h e => by
  cases h with
  | ol h1 h2 h3 => exact .inl ⟨rfl, _, SqL.of h1⟩
  | on h1 h2 h3 => exact .inl ⟨rfl, _, SqL.of h1⟩
  | _ => cases e
section
variable {X : Cx} {c : Ctx} {E : XK} {o e : Expr} {es : List Expr} {os : List Op} {i : Nat} {π : List (Sx × Nat)} {ty : R → Bool} {m : R → List R → Option (R × R)} {rd : V → List V → Hp → VK → Prop} {T id : String} {name : Str} {apos cpos pos : Pos}
theorem mut_run {TyP : V → Hp → Prop} (ok : CtxOk X c) (hty : TyOkG c TyP ty) (hj : ty .junk = false) (mo : MOk c m rd) {ts : List TE} (tr : Paired (TrO c E) os ts) {σ : L2.St} {H : Hp} {Q : VK} (h : tE c E (cMut i π ty m os) σ H Q) :
    tBMG TyP rd (tP c i π) (tL ts) σ H Q := by
  obtain ⟨I, ρ, fp, G, out⟩ := h
  unfold cMut at out
  cases e0 : getP ρ i π with
  | none => rw [e0] at out; exact out.elim
  | some r0 =>
    simp only [e0] at out
    split at out
    · rename_i hc
      obtain ⟨ht, hq⟩ := hc
      have nj : r0 ≠ .junk := by rintro rfl; rw [hj] at ht; cases ht
      obtain ⟨v, gp, s⟩ := sub_of ok.sch G.rep e0 nj
      refine ⟨I, ρ, fp, r0, v, gp, G, s, hty I H v r0 gp s.rep ht, ?_⟩
      -- the value stays, for a slot; for a deeper place the state stays
      have fin : ∀ hs ρ1 vs I1 H1 fp1 ft, Good c I1 H1 σ ρ1 fp1 → HdR c I1 H1 σ ρ1 fp1 hs vs ft → (fp1 ++ ft).Nodup → Stp fp I H (fp1 ++ ft) I1 H1 →
          (∀ r1, getP ρ1 i π = some r1 → r1 ≠ .junk → ∃ gp1, Sub c I1 H1 σ ρ1 fp1 i π r1 v gp1) →
          OutG c E I H fp (match getP ρ1 i π, hdArgs ρ1 hs with
            | some r1, some rs => if isJ r1 = true then Rs.no else (match m r1 rs with
              | some z => Rs.ok z.2 (setP ρ1 i π z.1)
              | none => .no)
            | _, _ => .no) (PostE c I H fp σ Q) → rd v vs H1 Q := by
        intro hs ρ1 vs I1 H1 fp1 ft G1 hr nd st hs1 p
        cases e1 : getP ρ1 i π with
        | none => simp only [e1] at p; exact p.elim
        | some r1 =>
          cases e2 : hdArgs ρ1 hs with
          | none => simp only [e1, e2] at p; exact p.elim
          | some rs =>
            simp only [e1, e2] at p
            split at p
            · exact p.elim
            · rename_i nj1
              cases e3 : m r1 rs with
              | none => simp only [e3] at p; exact p.elim
              | some z =>
                simp only [e3] at p
                obtain ⟨gp1, s1⟩ := hs1 r1 e1 (by rintro rfl; exact nj1 rfl)
                have hargs := hdArgs_ok G1 hr e2
                have ndg : (gp1 ++ ft).Nodup := by
                  obtain ⟨pre, post, e4, _⟩ := s1.fill
                  obtain ⟨n1, n2, n3⟩ := nd_app.mp nd
                  rw [e4] at n1 n3
                  refine nd_app.mpr ⟨(nd_app.mp (nd_app.mp n1).1).2.1, n2, fun a ha hb => n3 a (by simp [ha]) hb⟩
                obtain ⟨z1, z2⟩ := z
                refine mo I1 H1 v r1 gp1 vs rs ft z1 z2 Q G1.ih s1.rep hargs ndg e3 fun vres I2 H2 gp' fr s2 nd2 r2 r3 => ?_
                obtain ⟨fp2, G2, nd3, st3⟩ := hole G1 s1 nd s2 nd2 r2
                exact p vres I2 H2 fp2 fr G2 r3 nd3 (st.trans st3)
      rcases hq with rfl | hq
      · refine ops_run ok.sch tr G out.bind fun hs ρ1 p vs I1 H1 fp1 ft G1 hr nd st => fin hs ρ1 vs I1 H1 fp1 ft G1 hr nd st (fun r1 e1 n1 => ?_) p
        obtain ⟨v', gp', s'⟩ := sub_root G1.rep e1 n1
        have e5 := s'.2.1
        rw [s.2.1] at e5
        cases e5
        exact ⟨gp', s'⟩
      · cases e6 : cOps os ρ with
        | no => rw [e6] at out; exact out.elim
        | ex x ρ1 => exact absurd e6 (ops_noex hq x ρ1)
        | ok hs ρ1 =>
          rw [e6] at out
          obtain ⟨rfl, f⟩ := ops_quiet ok.sch G tr hq e6
          refine f _ fun vs h1 => fin hs ρ1 vs I H fp [] G h1 (by simpa using G.nd) (by simpa using Stp.refl G.ih) (fun r1 e1 n1 => ?_) out
          rw [e0] at e1; cases e1
          exact ⟨gp, s⟩
    · exact out.elim
theorem se_mut (ok : CtxOk X c) (pa : PlainAttrs T) (slot : Slot T name id) (hm1 : typeOf (.builtin id) = pure (.type "method_descriptor")) (hm : MtR X id rd) (hty : TyOk c T ty) (hj : ty .junk = false) (mo : MOk c m rd) (sp : SP X c o i π) (h : SOs X c E (e :: es) os)
    (hbase : attributeBase o name X.env (eval o X.env) = eval o X.env := by rfl)
    (hfew : ((backTo cpos (starEach (e :: es) X.env)).all (fun x => !x.1) && (backToKw cpos (keywordEach [] X.env)).all (fun x => x.1.isSome)
      && decide ((e :: es).length + ([] : List Keyword).length + (if ([] : List Keyword).isEmpty then 0 else 1) < 30)) = true := by rfl)
    (hline : (apos.endLine == cpos.line) = true := by rfl) (hplain : (backTo cpos (starEach es X.env)).any (·.1) = false := by rfl) :
    SE X c E (.Call (.Attribute o name apos) (e :: es) [] cpos) (cMut i π ty m os) := by
  cases h with
  | @cons _ oo _ os h1 h2 h3 =>
  obtain ⟨ts, pp, tr⟩ := (SOs.cons h1 h2 h3).pa
  exact pe_imp (pe_bm pa slot hm1 hm sp pp hbase hfew hline h2 hplain) fun σ H Q h => mut_run (TyP := tyV X.K T) ok (fun I H v r gp hr e => by rw [ok.k]; exact hty I H v r gp hr e) hj mo tr h
theorem se_mut0 (ok : CtxOk X c) (pa : PlainAttrs T) (slot : Slot T name id) (hm1 : typeOf (.builtin id) = pure (.type "method_descriptor")) (hm : MtR X id rd) (hty : TyOk c T ty) (hj : ty .junk = false) (mo : MOk c m rd) (sp : SP X c o i π)
    (hbase : attributeBase o name X.env (eval o X.env) = eval o X.env := by rfl) (hline : (apos.endLine == cpos.line) = true := by rfl) : SE X c E (.Call (.Attribute o name apos) [] [] cpos) (cMut i π ty m []) :=
  pe_imp (pe_bm0 pa slot hm1 hm sp hbase hline) fun σ H Q h => mut_run (TyP := tyV X.K T) (ts := []) ok (fun I H v r gp hr e => by rw [ok.k]; exact hty I H v r gp hr e) hj mo .nil h
/-- on a temporary: it is made, changed, dropped -/
def cMutT (f : EF) (ty : R → Bool) (m : R → List R → Option (R × R)) (os : List Op) : EF := fun ρ => (f ρ).bind fun r ρ1 => if ty r = true then (cOps os ρ1).bind fun hs ρ2 => match hdArgs ρ2 hs with
    | some rs => (match m r rs with
      | some z => .ok z.2 ρ2
      | none => .no)
    | none => .no
  else .no
theorem mutT_run {f : EF} (ok : CtxOk X c) (hty : TyOk c T ty) (mo : MOk c m rd) {ts : List TE} (tr : Paired (TrO c E) os ts) {σ : L2.St} {H : Hp} {Q : VK} (h : tE c E (cMutT f ty m os) σ H Q) :
    tBM X.K T rd (tE c E f) (tL ts) σ H Q := by
  obtain ⟨I, ρ, fp, G, out⟩ := h
  refine ⟨I, ρ, fp, G, OutG.imp (OutG.bind out) fun r ρ1 o1 v I1 H1 fp1 gp G1 r1 nd st => ?_⟩
  split at o1
  · rename_i ht
    refine ⟨by rw [ok.k]; exact hty I1 H1 v r gp r1 ht, ?_⟩
    have st1 : Stp fp I H fp1 I1 H1 := st.less fun x hx => List.mem_append_left _ hx
    refine ops_run ok.sch tr G1 (OutG.wx o1 st1).bind fun hs ρ2 p vs I2 H2 fp2 ft G2 hr nd2 st2 => ?_
    have dis : ∀ a, a ∈ gp → a ∉ fp1 := fun a ha hb => (nd_app.mp nd).2.2 a hb ha
    have r2 := r1.keep (st2.kept r1.own dis)
    have ap := st2.apart r1.own dis
    cases e2 : hdArgs ρ2 hs with
    | none => simp only [e2] at p; exact p.elim
    | some rs =>
      simp only [e2] at p
      cases e3 : m r rs with
      | none => simp only [e3] at p; exact p.elim
      | some z =>
        simp only [e3] at p
        obtain ⟨z1, z2⟩ := z
        have hargs := hdArgs_ok G2 hr e2
        obtain ⟨n1, n2, n3⟩ := nd_app.mp nd2
        have ndg : (gp ++ ft).Nodup := nd_app.mpr ⟨(nd_app.mp nd).2.1, n2, fun a ha hb => ap a ha (List.mem_append_right _ hb)⟩
        refine mo I2 H2 v r gp vs rs ft z1 z2 Q G2.ih r2 hargs ndg e3 fun vres I3 H3 gp' fr s3 nd3 q1 q2 => ?_
        have dis3 : ∀ a, a ∈ fp2 → a ∉ gp ++ ft := fun a ha hb => by
          rcases List.mem_append.mp hb with y | y
          · exact ap a y (List.mem_append_left _ ha)
          · exact n3 a ha y
        have kp3 := s3.kept G2.rep.own dis3
        have ap3 := s3.apart G2.rep.own dis3
        refine p vres I3 H3 fp2 fr ⟨s3.ih, G2.rep.keep kp3, G2.nd, G2.par, s3.tb G2.tb⟩ q2 (nd_app.mpr ⟨n1, (nd_app.mp nd3).2.1, fun a ha hb => ap3 a ha (List.mem_append_right _ hb)⟩) ?_
        have b2 := st2.beside (gp := gp)
        have b3 := s3.beside (gp := fp2)
        refine ((st.trans b2).trans (b3.more fun a ha => ?_)).less fun a ha => ?_
        · simp only [List.mem_append] at ha ⊢
          rcases ha with (y | y) | y
          · exact .inr y
          · exact .inl (.inr y)
          · exact .inl (.inl y)
        · simp only [List.mem_append] at ha ⊢
          rcases ha with y | y
          · exact .inr y
          · exact .inl (.inr y)
  · exact o1.elim
theorem se_mutT {f : EF} (ok : CtxOk X c) (pa : PlainAttrs T) (slot : Slot T name id) (hm1 : typeOf (.builtin id) = pure (.type "method_descriptor")) (hm : MtR X id rd) (hty : TyOk c T ty) (mo : MOk c m rd) (sp : SE X c E o f) (h : SOs X c E (e :: es) os)
    (hbase : attributeBase o name X.env (eval o X.env) = eval o X.env := by rfl)
    (hfew : ((backTo cpos (starEach (e :: es) X.env)).all (fun x => !x.1) && (backToKw cpos (keywordEach [] X.env)).all (fun x => x.1.isSome)
      && decide ((e :: es).length + ([] : List Keyword).length + (if ([] : List Keyword).isEmpty then 0 else 1) < 30)) = true := by rfl)
    (hline : (apos.endLine == cpos.line) = true := by rfl) (hplain : (backTo cpos (starEach es X.env)).any (·.1) = false := by rfl) :
    SE X c E (.Call (.Attribute o name apos) (e :: es) [] cpos) (cMutT f ty m os) := by
  cases h with
  | @cons _ oo _ os h1 h2 h3 =>
  obtain ⟨ts, pp, tr⟩ := (SOs.cons h1 h2 h3).pa
  exact pe_imp (pe_bm pa slot hm1 hm sp pp hbase hfew hline h2 hplain) fun σ H Q h => mutT_run ok hty mo tr h
theorem se_mutT0 {f : EF} (ok : CtxOk X c) (pa : PlainAttrs T) (slot : Slot T name id) (hm1 : typeOf (.builtin id) = pure (.type "method_descriptor")) (hm : MtR X id rd) (hty : TyOk c T ty) (mo : MOk c m rd) (sp : SE X c E o f)
    (hbase : attributeBase o name X.env (eval o X.env) = eval o X.env := by rfl) (hline : (apos.endLine == cpos.line) = true := by rfl) : SE X c E (.Call (.Attribute o name apos) [] [] cpos) (cMutT f ty m []) :=
  pe_imp (pe_bm0 pa slot hm1 hm sp hbase hline) fun σ H Q h => mutT_run (ts := []) ok hty mo .nil h
end
/-! ### stores at a place -/
def StOk (c : Ctx) (st : R → PyData → R → Option R) (rd : V → V → V → Hp → (Hp → Prop) → Prop) : Prop :=
  ∀ (I H : Hp) (v : V) (r1 : R) (gp : List Addr) (y : V) (kx : PyData) (w : V) (r : R) (fr : List Addr) (r1' : R) (Q : Hp → Prop), Same I H → RepR c I H v r1 gp → Vw c I H y kx → RepR c I H w r fr → (gp ++ fr).Nodup → st r1 kx r = some r1' →
    (∀ I' H' gp', Stp (gp ++ fr) I H gp' I' H' → gp'.Nodup → RepR c I' H' v r1' gp' → Q H') → rd v y w H Q
def quietView (ρ : List R) : Op → Option PyData
  | .c x => some x
  | .s i => (ρ[i]?).bind vw
  | .p i π => (getP ρ i π).bind vw
  | .e _ => none
def cStore (i : Nat) (π : List (Sx × Nat)) (ko : Op) (st : R → PyData → R → Option R) (f : EF) : SF := fun ρ => (f ρ).bind fun r ρ1 => match getP ρ1 i π, quietView ρ1 ko with
  | some r1, some kx => if isJ r1 = true then .no else (match st r1 kx r with
    | some r1' => .ok .nx (setP ρ1 i π r1')
    | none => .no)
  | _, _ => .no
section
variable {X : Cx} {c : Ctx} {E : XK} {o k e : Expr} {ko : Op} {i : Nat} {π : List (Sx × Nat)} {st : R → PyData → R → Option R} {rd : V → V → V → Hp → (Hp → Prop) → Prop} {pos pos' : Pos} {f : EF}
theorem quiet_read {I H : Hp} {σ : L2.St} {ρ : List R} {fp : List Addr} {ko : Op} {tk : TE} {x : PyData} (hsch : ∀ n, (c.sch n).Nodup) (G : Good c I H σ ρ fp) (tr : TrO c E ko tk) (e : quietView ρ ko = some x) {Q : VK} (h : ∀ y, Vw c I H y x → Q y H) : tk σ H Q := by
  cases tr with
  | e f => cases e
  | c hx => cases e; exact h _ (.d (hx I))
  | s j =>
    simp only [quietView] at e
    cases e1 : ρ[j]? with
    | none => rw [e1] at e; cases e
    | some r =>
      rw [e1, Option.bind_some] at e
      obtain ⟨_, gp, _, _, h3, _⟩ := G.rep.at e1
      rcases h3 with rfl | ⟨v, h4, h5⟩
      · cases e
      · exact ⟨v, h4, h v (vw_of h5 e)⟩
  | p j τ =>
    simp only [quietView] at e
    cases e1 : getP ρ j τ with
    | none => rw [e1] at e; cases e
    | some r =>
      rw [e1, Option.bind_some] at e
      obtain ⟨v, gp, s⟩ := sub_of hsch G.rep e1 (by rintro rfl; cases e)
      exact ⟨I, ρ, fp, r, v, gp, G, s, h v (vw_of s.rep e)⟩
theorem store_run (ok : CtxOk X c) (so : StOk c st rd) {tk : TE} (tr : TrO c E ko tk) {D : Ends} {σ : L2.St} {H : Hp} (h : tS c E (cStore i π ko st f) D σ H) :
    tE c E f σ H fun w H1 => tP c i π σ H1 fun v H2 => tk σ H2 fun y H3 => rd v y w H3 fun H4 => D.nx σ H4 := by
  obtain ⟨I, ρ, fp, G, out⟩ := h
  refine ⟨I, ρ, fp, G, OutG.imp (OutG.bind out) fun r ρ1 o1 w I1 H1 fp1 fr G1 rw1 nd st1 => ?_⟩
  cases e1 : getP ρ1 i π with
  | none => simp only [e1] at o1; exact o1.elim
  | some r1 =>
    cases e2 : quietView ρ1 ko with
    | none => simp only [e1, e2] at o1; exact o1.elim
    | some kx =>
      simp only [e1, e2] at o1
      split at o1
      · exact o1.elim
      · rename_i nj
        cases e3 : st r1 kx r with
        | none => simp only [e3] at o1; exact o1.elim
        | some r1' =>
          simp only [e3] at o1
          obtain ⟨v, gp, s⟩ := sub_of ok.sch G1.rep e1 (by rintro rfl; exact nj rfl)
          refine ⟨I1, ρ1, fp1, r1, v, gp, G1, s, quiet_read ok.sch G1 tr e2 fun y hy => ?_⟩
          have ndg : (gp ++ fr).Nodup := by
            obtain ⟨pre, post, e4, _⟩ := s.fill
            obtain ⟨n1, n2, n3⟩ := nd_app.mp nd
            rw [e4] at n1 n3
            exact nd_app.mpr ⟨(nd_app.mp (nd_app.mp n1).1).2.1, n2, fun a ha hb => n3 a (by simp [ha]) hb⟩
          refine so I1 H1 v r1 gp y kx w r fr r1' _ G1.ih s.rep hy rw1 ndg e3 fun I2 H2 gp' s2 nd2 r2 => ?_
          obtain ⟨fp2, G2, _, st3⟩ := hole (fr := []) G1 s nd (by simpa using s2) (by simpa using nd2) r2
          exact o1 σ I2 H2 fp2 G2 ((st1.trans st3).less fun a ha => List.mem_append_left _ ha)
/-- d[k] = e, xs[k] = e -/
theorem ss_store (ok : CtxOk X c) (ps : PSet X rd) (so : StOk c st rd) (he : SE X c E e f) (sp : SP X c o i π) (sk : SO X c E k ko) (hs : swapsWithSole [.Subscript o k pos'] e pos.line X.env = pure false := by rfl) (hw : swappedStores [.Subscript o k pos'] e X.env = pure none := by rfl)
    (h1 : (assignEach [.Subscript o k pos'] X.env).map (·.2) = [assign (.Subscript o k pos') X.env] := by rfl)
    (ha : ∀ v, assign (.Subscript o k pos') X.env v = (do
      let ov ← holding [v] (eval o X.env)
      let iv ← holding [v, ov] (eval k X.env)
      standAt pos'
      holding [v, ov, iv] (setItem ov iv v)
      release [v, ov, iv] []) := by intro _; rfl) : SS X c E (.Assign [.Subscript o k pos'] e pos) (cStore i π ko st f) := by
  obtain ⟨tk, pk, tr⟩ := sk
  exact ps_imp (ps_asg he (pg_sub sp pk ps ha) hs hw h1) fun D σ H h => store_run ok so tr h
end
end TP
set_option linter.all false
set_option maxRecDepth 100000
set_option maxHeartbeats 2000000
/-! TPl: what operations answer. -/
namespace TP
open PySem PySem.Spec PyProof.Rows L2
variable [TabsOf]
/-! ### views -/
section
variable {c : Ctx} {I H : Hp} {v : V} {x : PyData}
theorem Vw.int {i : Int} (h : Vw c I H v (.int i)) : v = .int i := by
  cases h with | d h => cases h; rfl
theorem Vw.bl {i : Bool} (h : Vw c I H v (.bool i)) : v = .bl i := by
  cases h with | d h => cases h; rfl
theorem Vw.str {i : Str} (h : Vw c I H v (.str i)) : v = .str i := by
  cases h with | d h => cases h; rfl
theorem Vw.non (h : Vw c I H v .none) : v = .non := by
  cases h with | d h => cases h; rfl
theorem Vw.lst {ds : List PyData} (ih : Same I H) (h : Vw c I H v (.list ds)) : ∃ p vs, v = .ref p ∧ SqL c.K H p vs ∧ DpAll c.K I vs ds := by
  cases h with
  | d h =>
    cases h with
    | lst hs ha => exact ⟨_, _, rfl, sm_l ih hs, ha⟩
  | l h1 h2 => exact ⟨_, _, rfl, SqL.of h1, h2⟩
theorem Vw.tup {ds : List PyData} (ih : Same I H) (h : Vw c I H v (.tuple ds)) : ∃ p vs, v = .ref p ∧ SqT c.K H p vs ∧ DpAll c.K I vs ds := by
  cases h with
  | d h =>
    cases h with
    | tup hs ha => exact ⟨_, _, rfl, sm_t ih hs, ha⟩
def notDict : PyData → Bool
  | .dict _ => false
  | _ => true
/-- read at the heap -/
theorem Vw.dp (ih : Same I H) (h : Vw c I H v x) (n : notDict x = true) : Dp c.K H v x := by
  cases h with
  | d h => exact dp_mono ih _ _ h
  | l h1 h2 => exact .lst (SqL.of h1) (dpall_mono ih _ _ h2)
  | t h1 h2 => cases n
theorem stay {E : Prop} {Q : VK} {res : R} (ih : Same I H) (hd : ∀ {J}, Same I J → True) : True := trivial
/-- an answer without a new thing -/
theorem ans_d {Q : VK} {res : PyData} {v : V} (ih : Same I H) (hd : Dp c.K I v res) (q : ∀ v I' H' fr, Stp [] I H fr I' H' → fr.Nodup → RepR c I' H' v (.d res) fr → Q v H') : Q v H :=
  q v I H [] (Stp.refl ih) (by simp) (.d hd)
/-- a new list -/
theorem ans_ol {Q : VK} {vs : List V} {ds : List PyData} {p : Addr} (ih : Same I H) (hp : H p = none) (hd : DpAll c.K I vs ds) (q : ∀ v I' H' fr, Stp [] I H fr I' H' → fr.Nodup → RepR c I' H' v (.ol ds) fr → Q v H') : Q (.ref p) (upd H p (.lst vs)) :=
  q _ I _ [p] (stp_new ih hp) (by simp) (.ol upd_same (ih.free hp) hd)
/-- a new tuple -/
theorem ans_tup {Q : VK} {vs : List V} {ds : List PyData} {p : Addr} (ih : Same I H) (hp : H p = none) (hd : DpAll c.K I vs ds) (q : ∀ v I' H' fr, Stp [] I H fr I' H' → fr.Nodup → RepR c I' H' v (.d (.tuple ds)) fr → Q v H') : Q (.ref p) (upd H p (.tup vs)) := by
  have st := stp_newD (o := HO.tup vs) ih hp
  exact q _ _ _ [] st (by simp) (.d (.tup (SqT.of upd_same) (dpall_mono st.ii _ _ hd)))
theorem vw1 {vs : List V} (h : VwAll c I H vs [x]) : ∃ v, vs = [v] ∧ Vw c I H v x := by
  cases h with | cons h1 h2 => cases h2; exact ⟨_, rfl, h1⟩
theorem vw2 {vs : List V} {y : PyData} (h : VwAll c I H vs [x, y]) : ∃ v w, vs = [v, w] ∧ Vw c I H v x ∧ Vw c I H w y := by
  cases h with | cons h1 h2 => cases h2 with | cons h2 h3 => cases h3; exact ⟨_, _, rfl, h1, h2⟩
theorem vw3 {vs : List V} {y z : PyData} (h : VwAll c I H vs [x, y, z]) : ∃ v w u, vs = [v, w, u] ∧ Vw c I H v x ∧ Vw c I H w y ∧ Vw c I H u z := by
  cases h with | cons h1 h2 => cases h2 with | cons h2 h3 => cases h3 with | cons h3 h4 => cases h4; exact ⟨_, _, _, rfl, h1, h2, h3⟩
theorem dpall_app {K : PySem.W.Frag} : ∀ {vs ws : List V} {ds es : List PyData}, DpAll K I vs ds → DpAll K I ws es → DpAll K I (vs ++ ws) (ds ++ es)
  | [], _, [], _, .nil, h => h
  | _ :: _, _, _ :: _, _, .cons h1 h2, h => .cons h1 (dpall_app h2 h)
theorem dpall_drop {K : PySem.W.Frag} : ∀ (n : Nat) {vs : List V} {ds : List PyData}, DpAll K I vs ds → DpAll K I (vs.drop n) (ds.drop n)
  | 0, _, _, h => h
  | n + 1, _, _, .nil => .nil
  | n + 1, _, _, .cons _ h => dpall_drop n h
theorem dpall_take {K : PySem.W.Frag} : ∀ (n : Nat) {vs : List V} {ds : List PyData}, DpAll K I vs ds → DpAll K I (vs.take n) (ds.take n)
  | 0, _, _, _ => .nil
  | n + 1, _, _, .nil => .nil
  | n + 1, _, _, .cons h1 h => .cons h1 (dpall_take n h)
theorem dpall_flat {K : PySem.W.Frag} {vs : List V} {ds : List PyData} (h : DpAll K I vs ds) : ∀ n : Nat, DpAll K I (List.replicate n vs).flatten (List.replicate n ds).flatten
  | 0 => .nil
  | n + 1 => by
    rw [List.replicate_succ, List.replicate_succ, List.flatten_cons, List.flatten_cons]
    exact dpall_app h (dpall_flat h n)
theorem dpall_rev {K : PySem.W.Frag} : ∀ {vs : List V} {ds : List PyData}, DpAll K I vs ds → DpAll K I vs.reverse ds.reverse
  | _, _, .nil => .nil
  | _, _, .cons h1 h => by
    rw [List.reverse_cons, List.reverse_cons]
    exact dpall_app (dpall_rev h) (.cons h1 .nil)
theorem dpall_ints {K : PySem.W.Frag} : ∀ {ns : List Int} {vs : List V}, DpAll K I vs (ns.map PyData.int) → vs = ns.map V.int
  | [], _, .nil => rfl
  | n :: ns, _, .cons h1 h => by cases h1; rw [dpall_ints h]; rfl
theorem dpall_strs {K : PySem.W.Frag} : ∀ {ns : List Str} {vs : List V}, DpAll K I vs (ns.map PyData.str) → vs = ns.map V.str
  | [], _, .nil => rfl
  | n :: ns, _, .cons h1 h => by cases h1; rw [dpall_strs h]; rfl
end
/-! ### unions of rules -/
theorem orr {X : Cx} {f : Value → Value → Sem Value} {r r' : R2} (h : OpR X f r) (h' : OpR X f r') : OpR X f (fun x y H Q => r x y H Q ∨ r' x y H Q) := by
  intro pins s σ H x y v u Q I rx ry q
  rcases q with q | q
  · exact h pins s σ H x y v u Q I rx ry q
  · exact h' pins s σ H x y v u Q I rx ry q
section
variable {X : Cx}
/-- xs + ys of any lists that are read -/
def rCatQ (K : PySem.W.Frag) : R2 := fun x y H Q => ∃ l b xs zs, x = .ref l ∧ y = .ref b ∧ SqL K H l xs ∧ SqL K H b zs ∧ xs.length + zs.length ≤ sizeLine ∧ ∀ p, H p = none → Q (.ref p) (upd H p (.lst (xs ++ zs)))
theorem op_catQ : OpR X (binaryOp .Add) (rCatQ X.K) := by
  intro pins s σ H x y v u Q I rx ry h
  obtain ⟨l, b, xs, zs, rfl, rfl, hH, hB, hz, q⟩ := h
  cases rx
  cases ry
  obtain ⟨its, r, pl, z⟩ := I.list hH
  obtain ⟨its2, r2, pl2, z2⟩ := I.list hB
  have l1 := r.length
  have l2 := r2.length
  obtain ⟨⟨cls, dd, data, sl⟩, n, ho, hc, hdd, hd⟩ := pl
  obtain ⟨⟨cls2, dd2, data2, sl2⟩, n2, ho2, hc2, hdd2, hd2⟩ := pl2
  simp only at hc hd hc2 hd2
  subst hc hd hc2 hd2
  have e : its.toArray ++ its2.toArray = (its ++ its2).toArray := by simp
  refine concat_meets ⟨_, ho, rfl⟩ ⟨_, ho2, rfl⟩ noFill_list_add seq_list_add PySem.F.slot_list_add PySem.F.entry_list_add (PySem.F.args_list_add_2 _ _) (list_addW l b its.toArray its2.toArray n n2 dd dd2 sl sl2 (by rw [List.size_toArray, List.size_toArray]; omega)) ⟨ho, ho2, ?_⟩
  rw [e]
  exact ⟨.ref _, _, I.lnew (t' := s.toks) (r.append r2) (by rw [List.length_append]; omega), rfl, q _ I.fresh⟩
end
/-! ### + - * // % ** -/
section
variable {c : Ctx} {X : Cx}
def addK : List PyData → Option R
  | [.int i, .int j] => some (.d (.int (i + j)))
  | [.str a, .str b] => if a.length + b.length ≤ 100000 then some (.d (.str (a ++ b))) else none
  | [.list xs, .list ys] => if xs.length + ys.length ≤ 100000 then some (.ol (xs ++ ys)) else none
  | _ => none
def rAddU (K : PySem.W.Frag) : R2 := fun x y H Q => rI0 (fun i j => .int (i + j)) x y H Q ∨ (∃ i j, x = .str i ∧ y = .str j ∧ i.length + j.length ≤ sizeLine ∧ Q (.str (i ++ j)) H) ∨ rCatQ K x y H Q
theorem op_addU : OpR X (binaryOp .Add) (rAddU X.K) := orr op_add (orr op_add_str op_catQ)
theorem n_add : NOk c addK (rd2 (rAddU c.K)) := by
  intro I H vs ds res Q ih hv hk q
  unfold addK at hk
  split at hk
  · cases hk
    obtain ⟨v, w, rfl, h1, h2⟩ := vw2 hv
    cases h1.int; cases h2.int
    exact .inl ⟨_, _, rfl, rfl, ans_d ih (.int _) q⟩
  · split at hk
    · rename_i hl
      cases hk
      obtain ⟨v, w, rfl, h1, h2⟩ := vw2 hv
      cases h1.str; cases h2.str
      exact .inr (.inl ⟨_, _, rfl, rfl, le_line' hl, ans_d ih (.str _) q⟩)
    · cases hk
  · split at hk
    · rename_i hl
      cases hk
      obtain ⟨v, w, rfl, h1, h2⟩ := vw2 hv
      obtain ⟨p, xs, rfl, s1, d1⟩ := h1.lst ih
      obtain ⟨p', ys, rfl, s2, d2⟩ := h2.lst ih
      refine .inr (.inr ⟨_, _, _, _, rfl, rfl, s1, s2, ?_, fun p hp => ans_ol ih hp (dpall_app d1 d2) q⟩)
      rw [dpall_len d1, dpall_len d2]
      exact le_line' hl
    · cases hk
  · cases hk
def subK : List PyData → Option R
  | [.int i, .int j] => some (.d (.int (i - j)))
  | _ => none
theorem n_sub : NOk c subK (rd2 (rI0 fun i j => .int (i - j))) := by
  intro I H vs ds res Q ih hv hk q
  unfold subK at hk
  split at hk
  · cases hk
    obtain ⟨v, w, rfl, h1, h2⟩ := vw2 hv
    cases h1.int; cases h2.int
    exact ⟨_, _, rfl, rfl, ans_d ih (.int _) q⟩
  · cases hk
def small (i : Int) : Bool := decide (-(2 ^ 64) < i) && decide (i < 2 ^ 64)
theorem cmul_of {i j : Int} (h : (small i || small j) = true) : CMul i j := by
  unfold small at h
  simp only [Bool.or_eq_true, Bool.and_eq_true, decide_eq_true_eq] at h
  exact h
def mulK : List PyData → Option R
  | [.int i, .int j] => if (small i || small j) = true then some (.d (.int (i * j))) else none
  | _ => none
theorem n_mul : NOk c mulK (rd2 (rI CMul fun i j => .int (i * j))) := by
  intro I H vs ds res Q ih hv hk q
  unfold mulK at hk
  split at hk
  · split at hk
    · rename_i hb
      cases hk
      obtain ⟨v, w, rfl, h1, h2⟩ := vw2 hv
      cases h1.int; cases h2.int
      exact ⟨_, _, rfl, rfl, cmul_of hb, ans_d ih (.int _) q⟩
    · cases hk
  · cases hk
noncomputable def fdivK : List PyData → Option R
  | [.int i, .int j] => @ite _ (0 < j ∧ j < 1073741824) (Classical.propDecidable _) (some (.d (.int (i / j)))) none
  | _ => none
theorem n_fdiv : NOk c fdivK (rd2 (rI CDiv fun i j => .int (i / j))) := by
  intro I H vs ds res Q ih hv hk q
  unfold fdivK at hk
  split at hk
  · split at hk
    · rename_i hb
      cases hk
      obtain ⟨v, w, rfl, h1, h2⟩ := vw2 hv
      cases h1.int; cases h2.int
      exact ⟨_, _, rfl, rfl, hb, ans_d ih (.int _) q⟩
    · cases hk
  · cases hk
def modK : List PyData → Option R
  | [.int i, .int j] => if 0 < j then some (.d (.int (i % j))) else none
  | _ => none
theorem n_mod : NOk c modK (rd2 (rI (fun _ j => 0 < j) fun i j => .int (i % j))) := by
  intro I H vs ds res Q ih hv hk q
  unfold modK at hk
  split at hk
  · split at hk
    · rename_i hb
      cases hk
      obtain ⟨v, w, rfl, h1, h2⟩ := vw2 hv
      cases h1.int; cases h2.int
      exact ⟨_, _, rfl, rfl, hb, ans_d ih (.int _) q⟩
    · cases hk
  · cases hk
def powK : List PyData → Option R
  | [.int i, .int j] => if 0 ≤ j ∧ j ≤ 1000000 ∧ i.natAbs < 2 ^ 64 then some (.d (.int (i ^ j.toNat))) else none
  | _ => none
theorem n_pow : NOk c powK (rd2 (rI CPow fun i j => .int (i ^ j.toNat))) := by
  intro I H vs ds res Q ih hv hk q
  unfold powK at hk
  split at hk
  · split at hk
    · rename_i hb
      cases hk
      obtain ⟨v, w, rfl, h1, h2⟩ := vw2 hv
      cases h1.int; cases h2.int
      exact ⟨_, _, rfl, rfl, hb, ans_d ih (.int _) q⟩
    · cases hk
  · cases hk
def negK : List PyData → Option R
  | [.int i] => some (.d (.int (-i)))
  | _ => none
theorem n_neg : NOk c negK (rd1 (rU fun i => .int (-i))) := by
  intro I H vs ds res Q ih hv hk q
  unfold negK at hk
  split at hk
  · cases hk
    obtain ⟨v, rfl, h1⟩ := vw1 hv
    cases h1.int
    exact ⟨_, rfl, ans_d ih (.int _) q⟩
  · cases hk
/-! ### comparisons -/
def cmpK (p : Int → Int → Bool) : List PyData → Option R
  | [.int i, .int j] => some (.d (.bool (p i j)))
  | _ => none
theorem n_cmp {p : Int → Int → Bool} : NOk c (cmpK p) (rd2 (rI0 fun i j => .bl (p i j))) := by
  intro I H vs ds res Q ih hv hk q
  unfold cmpK at hk
  split at hk
  · cases hk
    obtain ⟨v, w, rfl, h1, h2⟩ := vw2 hv
    cases h1.int; cases h2.int
    exact ⟨_, _, rfl, rfl, ans_d ih (.bl _) q⟩
  · cases hk
abbrev ltK := cmpK fun i j => decide (i < j)
abbrev leK := cmpK fun i j => decide (i ≤ j)
abbrev gtK := cmpK fun i j => decide (j < i)
abbrev geK := cmpK fun i j => decide (j ≤ i)
def eqK : List PyData → Option R
  | [x, y] => if (notDict x && notDict y && SeqAt.shaped x && SeqAt.shaped y) = true then some (.d (.bool (PyData.eqv x y))) else none
  | _ => none
def neK : List PyData → Option R
  | [x, y] => if (notDict x && notDict y && SeqAt.shaped x && SeqAt.shaped y) = true then some (.d (.bool (!PyData.eqv x y))) else none
  | _ => none
theorem n_eq : NOk c eqK (rd2 (rEqD c.K)) := by
  intro I H vs ds res Q ih hv hk q
  unfold eqK at hk
  split at hk
  · split at hk
    · rename_i hb
      cases hk
      simp only [Bool.and_eq_true] at hb
      obtain ⟨v, w, rfl, h1, h2⟩ := vw2 hv
      exact ⟨_, _, h1.dp ih hb.1.1.1, h2.dp ih hb.1.1.2, hb.1.2, hb.2, ans_d ih (.bl _) q⟩
    · cases hk
  · cases hk
theorem n_ne : NOk c neK (rd2 (rNeD c.K)) := by
  intro I H vs ds res Q ih hv hk q
  unfold neK at hk
  split at hk
  · split at hk
    · rename_i hb
      cases hk
      simp only [Bool.and_eq_true] at hb
      obtain ⟨v, w, rfl, h1, h2⟩ := vw2 hv
      exact ⟨_, _, h1.dp ih hb.1.1.1, h2.dp ih hb.1.1.2, hb.1.2, hb.2, ans_d ih (.bl _) q⟩
    · cases hk
  · cases hk
/-! ### is -/
def isNone : PyData → Bool
  | .none => true
  | _ => false
def isK : List PyData → Option R
  | [x, .none] => some (.d (.bool (isNone x)))
  | [.bool a, .bool b] => some (.d (.bool (decide (a = b))))
  | _ => none
def isNotK : List PyData → Option R
  | [x, .none] => some (.d (.bool (!isNone x)))
  | [.bool a, .bool b] => some (.d (.bool (!decide (a = b))))
  | _ => none
theorem Vw.isNone {I H : Hp} {v : V} {x : PyData} (h : Vw c I H v x) : decide (v = V.non) = TP.isNone x := by
  cases h with
  | d h => cases h <;> rfl
  | l _ _ => rfl
  | t _ _ => rfl
def rIsU : R2 := fun x y H Q => rIsN x y H Q ∨ ∃ a b, x = .bl a ∧ y = .bl b ∧ Q (.bl (decide (a = b))) H
def rIsNotU : R2 := fun x y H Q => rNotN x y H Q ∨ ∃ a b, x = .bl a ∧ y = .bl b ∧ Q (.bl (!decide (a = b))) H
theorem op_isU : OpR X (compareOp .Is) rIsU := orr op_isN1 op_is_bl
theorem op_isNotU : OpR X (compareOp .IsNot) rIsNotU := orr op_notN1 op_isnot_bl
theorem n_is : NOk c isK (rd2 rIsU) := by
  intro I H vs ds res Q ih hv hk q
  unfold isK at hk
  split at hk
  · cases hk
    obtain ⟨v, w, rfl, h1, h2⟩ := vw2 hv
    cases h2.non
    exact .inl ⟨rfl, by rw [h1.isNone]; exact ans_d ih (.bl _) q⟩
  · cases hk
    obtain ⟨v, w, rfl, h1, h2⟩ := vw2 hv
    cases h1.bl; cases h2.bl
    exact .inr ⟨_, _, rfl, rfl, ans_d ih (.bl _) q⟩
  · cases hk
theorem n_isNot : NOk c isNotK (rd2 rIsNotU) := by
  intro I H vs ds res Q ih hv hk q
  unfold isNotK at hk
  split at hk
  · cases hk
    obtain ⟨v, w, rfl, h1, h2⟩ := vw2 hv
    cases h2.non
    exact .inl ⟨rfl, by rw [h1.isNone]; exact ans_d ih (.bl _) q⟩
  · cases hk
    obtain ⟨v, w, rfl, h1, h2⟩ := vw2 hv
    cases h1.bl; cases h2.bl
    exact .inr ⟨_, _, rfl, rfl, ans_d ih (.bl _) q⟩
  · cases hk
/-! ### in -/
def flatD : PyData → Bool
  | .none => true
  | .bool _ => true
  | .int _ => true
  | .str _ => true
  | _ => false
def one? (a : Str) : Option Nat := match a.cps.toList with
  | [k] => some k
  | _ => none
theorem one?_eq {a : Str} {k : Nat} (h : one? a = some k) : a = ⟨#[k]⟩ := by
  obtain ⟨l⟩ := a
  obtain ⟨l⟩ := l
  unfold one? at h
  match l, h with
  | [_], h => cases h; rfl
def inB (x y : PyData) : Option Bool := match y with
  | .list ys => if (SeqAt.shaped x && SeqAt.shaped (.list ys) && notDict x) = true then some (ys.any fun z => PyData.eqv z x) else none
  | .str z => (match x with
    | .str a => (one? a).map fun k => decide (k ∈ z.cps.toList)
    | _ => none)
  | _ => none
def inK : List PyData → Option R
  | [x, y] => (inB x y).map fun b => .d (.bool b)
  | _ => none
def notInK : List PyData → Option R
  | [x, y] => (inB x y).map fun b => .d (.bool (!b))
  | _ => none
def rInU (K : PySem.W.Frag) : R2 := fun x y H Q => rInD K x y H Q ∨ ∃ (c : Nat) (z : Str), x = .str ⟨#[c]⟩ ∧ y = .str z ∧ Q (.bl (decide (c ∈ z.cps.toList))) H
def rNotInU (K : PySem.W.Frag) : R2 := fun x y H Q => rNotInD K x y H Q ∨ ∃ (c : Nat) (z : Str), x = .str ⟨#[c]⟩ ∧ y = .str z ∧ Q (.bl (!decide (c ∈ z.cps.toList))) H
theorem op_inU (hu : X.A.units + 65 < cLine) : OpR X (compareOp .In) (rInU X.K) := orr (op_inD hu) op_in_sign
theorem op_notInU (hu : X.A.units + 65 < cLine) : OpR X (compareOp .NotIn) (rNotInU X.K) := orr (op_notInD hu) op_notIn_sign
theorem n_in : NOk c inK (rd2 (rInU c.K)) := by
  intro I H vs ds res Q ih hv hk q
  unfold inK at hk
  split at hk
  · rename_i x y
    obtain ⟨v, w, rfl, h1, h2⟩ := vw2 hv
    unfold inB at hk
    split at hk
    · split at hk
      · rename_i hb
        simp only [Option.map_some, Option.some.injEq] at hk
        subst hk
        simp only [Bool.and_eq_true] at hb
        exact .inl ⟨_, _, h1.dp ih hb.2, h2.dp ih rfl, hb.1.1, hb.1.2, ans_d ih (.bl _) q⟩
      · cases hk
    · split at hk
      · rename_i a
        cases e1 : one? a with
        | none => rw [e1] at hk; cases hk
        | some k =>
        rw [e1] at hk
        simp only [Option.map_some, Option.some.injEq] at hk
        subst hk
        cases one?_eq e1
        cases h1.str; cases h2.str
        exact .inr ⟨_, _, rfl, rfl, ans_d ih (.bl _) q⟩
      · cases hk
    · cases hk
  · cases hk
theorem n_notIn : NOk c notInK (rd2 (rNotInU c.K)) := by
  intro I H vs ds res Q ih hv hk q
  unfold notInK at hk
  split at hk
  · rename_i x y
    obtain ⟨v, w, rfl, h1, h2⟩ := vw2 hv
    unfold inB at hk
    split at hk
    · split at hk
      · rename_i hb
        simp only [Option.map_some, Option.some.injEq] at hk
        subst hk
        simp only [Bool.and_eq_true] at hb
        exact .inl ⟨_, _, h1.dp ih hb.2, h2.dp ih rfl, hb.1.1, hb.1.2, ans_d ih (.bl _) q⟩
      · cases hk
    · split at hk
      · rename_i a
        cases e1 : one? a with
        | none => rw [e1] at hk; cases hk
        | some k =>
        rw [e1] at hk
        simp only [Option.map_some, Option.some.injEq] at hk
        subst hk
        cases one?_eq e1
        cases h1.str; cases h2.str
        exact .inr ⟨_, _, rfl, rfl, ans_d ih (.bl _) q⟩
      · cases hk
    · cases hk
  · cases hk
/-! ### an item -/
def ixK : List PyData → Option R
  | [.list xs, .int i] => (atI xs i).map .d
  | [.tuple xs, .int i] => (atI xs i).map .d
  | [.str z, .int i] => if z.length ≤ 100000 then (atI z.cps.toList i).map fun k => .d (.str ⟨#[k]⟩) else none
  | _ => none
theorem dpall_atI {K : PySem.W.Frag} {I : Hp} {ds : List PyData} {vs : List V} {i : Int} {d : PyData} (h : DpAll K I vs ds) (e : atI ds i = some d) : ∃ v, atI vs i = some v ∧ Dp K I v d := by
  unfold atI at e ⊢
  rw [dpall_len h]
  cases e1 : ixN ds.length i with
  | none => rw [e1] at e; cases e
  | some j =>
    rw [e1, Option.bind_some] at e
    rw [Option.bind_some]
    have hj : j < ds.length := (List.getElem?_eq_some_iff.mp e).1
    obtain ⟨v, hv⟩ : ∃ v, vs[j]? = some v := ⟨_, List.getElem?_eq_getElem (by rw [dpall_len h]; exact hj)⟩
    obtain ⟨d', e2, h2⟩ := dpall_at h hv
    rw [e] at e2; cases e2
    exact ⟨v, hv, h2⟩
theorem n_ix : NOk c ixK (rd2 (rIx c.K)) := by
  intro I H vs ds res Q ih hv hk q
  unfold ixK at hk
  split at hk
  · rename_i xs i
    obtain ⟨v, w, rfl, h1, h2⟩ := vw2 hv
    cases h2.int
    obtain ⟨p, us, rfl, s1, d1⟩ := h1.lst ih
    cases e : atI xs i with
    | none => rw [e] at hk; cases hk
    | some d =>
      rw [e] at hk; cases hk
      obtain ⟨u, e2, h3⟩ := dpall_atI d1 e
      exact .inl ⟨p, us, i, u, rfl, rfl, s1, e2, ans_d ih h3 q⟩
  · rename_i xs i
    obtain ⟨v, w, rfl, h1, h2⟩ := vw2 hv
    cases h2.int
    obtain ⟨p, us, rfl, s1, d1⟩ := h1.tup ih
    cases e : atI xs i with
    | none => rw [e] at hk; cases hk
    | some d =>
      rw [e] at hk; cases hk
      obtain ⟨u, e2, h3⟩ := dpall_atI d1 e
      exact .inr (.inl ⟨p, us, i, u, rfl, rfl, s1, e2, ans_d ih h3 q⟩)
  · rename_i z i
    obtain ⟨v, w, rfl, h1, h2⟩ := vw2 hv
    cases h1.str; cases h2.int
    split at hk
    · rename_i hl
      cases e : atI z.cps.toList i with
      | none => rw [e] at hk; cases hk
      | some k =>
        rw [e] at hk; cases hk
        exact .inr (.inr ⟨z, i, k, rfl, rfl, le_line' hl, e, ans_d ih (.str _) q⟩)
    · cases hk
  · cases hk
end
end TP
set_option linter.all false
set_option maxRecDepth 100000
set_option maxHeartbeats 2000000
/-! TPm: built-in functions, methods. -/
namespace TP
open PySem PySem.Spec PyProof.Rows L2
variable [TabsOf]
section
variable {c : Ctx} {X : Cx} {E : XK}
/-! ### calls of built-ins -/
theorem se_callB {x : Str} {p pos : Pos} {e : Expr} {es : List Expr} {os : List Op} {k : List PyData → Option R} {id : String} {r : List V → Hp → VK → Prop} (ok : CtxOk X c) (hc : CallR X (.builtin id) r) (n : NOk c k r) (hg : Gl X x) (hm : X.mg x = none) (hv : bootBuiltins x = some (.builtin id)) (h : SOs X c E (e :: es) os)
    (hn : x ≠ "__name__" := by decide) (hdb : (x == ("__debug__" : Str)) = false := by decide) (hpl : (backTo pos (starEach es X.env)).any (·.1) = false := by rfl) : SE X c E (.Call (.Name x p) (e :: es) [] pos) (cN k os) := by
  cases h with
  | @cons _ o _ os h1 h2 h3 =>
  obtain ⟨ts, pa, tr⟩ := (SOs.cons h1 h2 h3).pa
  exact se_n ok (pe_callB hc hg hm hv pa hn hdb h2 hpl) n tr fun _ _ _ q => q
theorem se_callTy {x : Str} {p pos : Pos} {e : Expr} {es : List Expr} {os : List Op} {k : List PyData → Option R} {T : String} {r : List V → Hp → VK → Prop} (ok : CtxOk X c) (hc : CallR X (.type T) r) (n : NOk c k r) (hg : Gl X x) (hm : X.mg x = none) (hv : bootBuiltins x = some (.type T)) (h : SOs X c E (e :: es) os)
    (hn : x ≠ "__name__" := by decide) (hdb : (x == ("__debug__" : Str)) = false := by decide) (hpl : (backTo pos (starEach es X.env)).any (·.1) = false := by rfl) : SE X c E (.Call (.Name x p) (e :: es) [] pos) (cN k os) := by
  cases h with
  | @cons _ o _ os h1 h2 h3 =>
  obtain ⟨ts, pa, tr⟩ := (SOs.cons h1 h2 h3).pa
  exact se_n ok (pe_callTy hc hg hm hv pa hn hdb h2 hpl) n tr fun _ _ _ q => q
def lenK : List PyData → Option R
  | [.list xs] => some (.d (.int xs.length))
  | [.tuple xs] => some (.d (.int xs.length))
  | [.str z] => if z.length ≤ 100000 then some (.d (.int z.length)) else none
  | _ => none
def rLenU (K : PySem.W.Frag) : List V → Hp → VK → Prop := fun xs H Q => (∃ p ys, xs = [.ref p] ∧ (SqL K H p ys ∨ SqT K H p ys) ∧ Q (.int ys.length) H) ∨ ∃ z, xs = [.str z] ∧ z.length ≤ sizeLine ∧ Q (.int z.length) H
theorem call_lenU : CallR X (.builtin "len") (rLenU X.K) := call_len_seq.or call_len_str
theorem n_len : NOk c lenK (rLenU c.K) := by
  intro I H vs ds res Q ih hv hk q
  unfold lenK at hk
  split at hk
  · cases hk
    obtain ⟨v, rfl, h1⟩ := vw1 hv
    obtain ⟨p, us, rfl, s1, d1⟩ := h1.lst ih
    exact .inl ⟨p, us, rfl, .inl s1, by rw [dpall_len d1]; exact ans_d ih (.int _) q⟩
  · cases hk
    obtain ⟨v, rfl, h1⟩ := vw1 hv
    obtain ⟨p, us, rfl, s1, d1⟩ := h1.tup ih
    exact .inl ⟨p, us, rfl, .inr s1, by rw [dpall_len d1]; exact ans_d ih (.int _) q⟩
  · split at hk
    · rename_i hl
      cases hk
      obtain ⟨v, rfl, h1⟩ := vw1 hv
      cases h1.str
      exact .inr ⟨_, rfl, le_line' hl, ans_d ih (.int _) q⟩
    · cases hk
  · cases hk
def listK : List PyData → Option R
  | [.list xs] => some (.ol xs)
  | [.tuple xs] => some (.ol xs)
  | _ => none
def rListU (K : PySem.W.Frag) : List V → Hp → VK → Prop := fun xs H Q => ∃ p ys, xs = [.ref p] ∧ (SqL K H p ys ∨ SqT K H p ys) ∧ ∀ l, H l = none → Q (.ref l) (upd H l (.lst ys))
theorem call_listU : CallR X (.type "list") (rListU X.K) := call_list_of
theorem n_list : NOk c listK (rListU c.K) := by
  intro I H vs ds res Q ih hv hk q
  unfold listK at hk
  split at hk
  · cases hk
    obtain ⟨v, rfl, h1⟩ := vw1 hv
    obtain ⟨p, us, rfl, s1, d1⟩ := h1.lst ih
    exact ⟨p, us, rfl, .inl s1, fun l hl => ans_ol ih hl d1 q⟩
  · cases hk
    obtain ⟨v, rfl, h1⟩ := vw1 hv
    obtain ⟨p, us, rfl, s1, d1⟩ := h1.tup ih
    exact ⟨p, us, rfl, .inr s1, fun l hl => ans_ol ih hl d1 q⟩
  · cases hk
def tupleK : List PyData → Option R
  | [.list xs] => some (.d (.tuple xs))
  | [.tuple xs] => some (.d (.tuple xs))
  | _ => none
def rTupleU (K : PySem.W.Frag) : List V → Hp → VK → Prop := fun xs H Q => ∃ p ys, xs = [.ref p] ∧ ((SqL K H p ys ∧ ∀ l, H l = none → Q (.ref l) (upd H l (.tup ys))) ∨ (SqT K H p ys ∧ Q (.ref p) H))
theorem call_tupleU : CallR X (.type "tuple") (rTupleU X.K) := call_tuple_of
theorem n_tuple : NOk c tupleK (rTupleU c.K) := by
  intro I H vs ds res Q ih hv hk q
  unfold tupleK at hk
  split at hk
  · cases hk
    obtain ⟨v, rfl, h1⟩ := vw1 hv
    obtain ⟨p, us, rfl, s1, d1⟩ := h1.lst ih
    exact ⟨p, us, rfl, .inl ⟨s1, fun l hl => ans_tup ih hl d1 q⟩⟩
  · cases hk
    obtain ⟨v, rfl, h1⟩ := vw1 hv
    cases h1 with
    | d h1 =>
      cases h1 with
      | @tup a vs _ hs ha => exact ⟨a, vs, rfl, .inr ⟨sm_t ih hs, ans_d ih (.tup hs ha) q⟩⟩
  · cases hk
def bI (b : Bool) : Int := if b = true then 1 else 0
def intK : List PyData → Option R
  | [.int i] => some (.d (.int i))
  | [.bool b] => some (.d (.int (bI b)))
  | [.str a] => if a.length ≤ 640 then (PySem.intText? a).map fun n => .d (.int n) else none
  | _ => none
def rIntU : List V → Hp → VK → Prop := fun xs H Q => ((∃ i, xs = [.int i] ∧ Q (.int i) H) ∨ ∃ k, xs = [.bl k] ∧ Q (.int (if k then 1 else 0)) H) ∨ ∃ a n, xs = [.str a] ∧ PySem.intText? a = some n ∧ a.length ≤ 640 ∧ Q (.int n) H
theorem call_intU : CallR X (.type "int") rIntU := call_int1.or call_int_str
theorem n_int : NOk c intK rIntU := by
  intro I H vs ds res Q ih hv hk q
  unfold intK at hk
  split at hk
  · cases hk
    obtain ⟨v, rfl, h1⟩ := vw1 hv
    cases h1.int
    exact .inl (.inl ⟨_, rfl, ans_d ih (.int _) q⟩)
  · cases hk
    obtain ⟨v, rfl, h1⟩ := vw1 hv
    cases h1.bl
    exact .inl (.inr ⟨_, rfl, ans_d ih (.int _) q⟩)
  · split at hk
    · rename_i a hl
      cases e : PySem.intText? a with
      | none => rw [e] at hk; cases hk
      | some n =>
        rw [e] at hk; cases hk
        obtain ⟨v, rfl, h1⟩ := vw1 hv
        cases h1.str
        exact .inr ⟨_, _, rfl, e, hl, ans_d ih (.int _) q⟩
    · cases hk
  · cases hk
def strK : List PyData → Option R
  | [.int i] => if i.natAbs.log2 < 1920 then some (.d (.str (toString i))) else none
  | _ => none
def rStrI : List V → Hp → VK → Prop := fun xs H Q => ∃ i, xs = [.int i] ∧ i.natAbs.log2 < 1920 ∧ Q (.str (toString i)) H
theorem call_strI : CallR X (.type "str") rStrI := call_str_int
theorem n_str : NOk c strK rStrI := by
  intro I H vs ds res Q ih hv hk q
  unfold strK at hk
  split at hk
  · split at hk
    · rename_i hl
      cases hk
      obtain ⟨v, rfl, h1⟩ := vw1 hv
      cases h1.int
      exact ⟨_, rfl, hl, ans_d ih (.str _) q⟩
    · cases hk
  · cases hk
/-! max, min, sum -/
def mx (i j : Int) : Int := if i < j then j else i
def mn (i j : Int) : Int := if j < i then j else i
def intsOf : List PyData → Option (List Int)
  | [] => some []
  | .int i :: ds => (intsOf ds).map (i :: ·)
  | _ => none
theorem intsOf_eq : ∀ {ds : List PyData} {ns : List Int}, intsOf ds = some ns → ds = ns.map PyData.int
  | [], _, h => by cases h; rfl
  | .int i :: ds, ns, h => by
    unfold intsOf at h
    cases e : intsOf ds with
    | none => rw [e] at h; cases h
    | some ms => rw [e] at h; cases h; rw [intsOf_eq e]; rfl
  | .none :: _, _, h => by cases h
  | .bool _ :: _, _, h => by cases h
  | .str _ :: _, _, h => by cases h
  | .list _ :: _, _, h => by cases h
  | .tuple _ :: _, _, h => by cases h
  | .dict _ :: _, _, h => by cases h
theorem intsOf_map (ns : List Int) : intsOf (ns.map PyData.int) = some ns := by
  induction ns with
  | nil => rfl
  | cons n ns ih => show (intsOf (ns.map PyData.int)).map (n :: ·) = _; rw [ih]; rfl
theorem mx_ge (i j : Int) : i ≤ mx i j ∧ j ≤ mx i j ∧ (mx i j = i ∨ mx i j = j) := by
  unfold mx; split <;> omega
theorem mn_le (i j : Int) : mn i j ≤ i ∧ mn i j ≤ j ∧ (mn i j = i ∨ mn i j = j) := by
  unfold mn; split <;> omega
theorem fold_mx : ∀ (ns : List Int) (a : Int), a ≤ ns.foldl mx a ∧ (∀ y, y ∈ ns → y ≤ ns.foldl mx a) ∧ (ns.foldl mx a = a ∨ ns.foldl mx a ∈ ns)
  | [], a => ⟨Int.le_refl _, (fun _ h => by cases h), .inl rfl⟩
  | n :: ns, a => by
    obtain ⟨h1, h2, h3⟩ := fold_mx ns (mx a n)
    obtain ⟨m1, m2, m3⟩ := mx_ge a n
    refine ⟨Int.le_trans m1 h1, fun y hy => ?_, ?_⟩
    · rcases List.mem_cons.mp hy with rfl | hy
      · exact Int.le_trans m2 h1
      · exact h2 y hy
    · show ns.foldl mx (mx a n) = a ∨ ns.foldl mx (mx a n) ∈ n :: ns
      rcases h3 with h3 | h3
      · rcases m3 with m3 | m3
        · exact .inl (h3.trans m3)
        · exact .inr (by rw [h3, m3]; exact List.mem_cons_self)
      · exact .inr (List.mem_cons_of_mem _ h3)
theorem fold_mn : ∀ (ns : List Int) (a : Int), ns.foldl mn a ≤ a ∧ (∀ y, y ∈ ns → ns.foldl mn a ≤ y) ∧ (ns.foldl mn a = a ∨ ns.foldl mn a ∈ ns)
  | [], a => ⟨Int.le_refl _, (fun _ h => by cases h), .inl rfl⟩
  | n :: ns, a => by
    obtain ⟨h1, h2, h3⟩ := fold_mn ns (mn a n)
    obtain ⟨m1, m2, m3⟩ := mn_le a n
    refine ⟨Int.le_trans h1 m1, fun y hy => ?_, ?_⟩
    · rcases List.mem_cons.mp hy with rfl | hy
      · exact Int.le_trans h1 m2
      · exact h2 y hy
    · show ns.foldl mn (mn a n) = a ∨ ns.foldl mn (mn a n) ∈ n :: ns
      rcases h3 with h3 | h3
      · rcases m3 with m3 | m3
        · exact .inl (h3.trans m3)
        · exact .inr (by rw [h3, m3]; exact List.mem_cons_self)
      · exact .inr (List.mem_cons_of_mem _ h3)
def maxI : List Int → Int
  | [] => 0
  | n :: ns => ns.foldl mx n
def minI : List Int → Int
  | [] => 0
  | n :: ns => ns.foldl mn n
theorem maxI_is {ns : List Int} {m : Int} (h1 : m ∈ ns) (h2 : ∀ y, y ∈ ns → y ≤ m) : maxI ns = m := by
  cases ns with
  | nil => cases h1
  | cons n ns =>
    obtain ⟨k1, k2, k3⟩ := fold_mx ns n
    show ns.foldl mx n = m
    have e1 : m ≤ ns.foldl mx n := by
      rcases List.mem_cons.mp h1 with rfl | h1
      · exact k1
      · exact k2 m h1
    have e2 : ns.foldl mx n ≤ m := by
      rcases k3 with k3 | k3
      · rw [k3]; exact h2 n List.mem_cons_self
      · exact h2 _ (List.mem_cons_of_mem _ k3)
    omega
theorem minI_is {ns : List Int} {m : Int} (h1 : m ∈ ns) (h2 : ∀ y, y ∈ ns → m ≤ y) : minI ns = m := by
  cases ns with
  | nil => cases h1
  | cons n ns =>
    obtain ⟨k1, k2, k3⟩ := fold_mn ns n
    show ns.foldl mn n = m
    have e1 : ns.foldl mn n ≤ m := by
      rcases List.mem_cons.mp h1 with rfl | h1
      · exact k1
      · exact k2 m h1
    have e2 : m ≤ ns.foldl mn n := by
      rcases k3 with k3 | k3
      · rw [k3]; exact h2 n List.mem_cons_self
      · exact h2 _ (List.mem_cons_of_mem _ k3)
    omega
theorem nu_max (i j : Int) : nuMax2 (.int i) (.int j) = some (.int (mx i j)) := by
  have e : nuLt (.int i) (.int j) = some (decide (i < j)) := rfl
  unfold nuMax2 mx
  rw [e]
  by_cases h : i < j <;> simp [h]
theorem nu_min (i j : Int) : nuMin2 (.int i) (.int j) = some (.int (mn i j)) := by
  have e : nuLt (.int j) (.int i) = some (decide (j < i)) := rfl
  unfold nuMin2 mn
  rw [e]
  by_cases h : j < i <;> simp [h]
def maxK : List PyData → Option R
  | [.list ds] => (intsOf ds).bind fun ns => if ns.isEmpty = true then none else some (.d (.int (maxI ns)))
  | [.int i, .int j] => some (.d (.int (mx i j)))
  | [.int i, .int j, .int k] => some (.d (.int (mx (mx i j) k)))
  | _ => none
def minK : List PyData → Option R
  | [.list ds] => (intsOf ds).bind fun ns => if ns.isEmpty = true then none else some (.d (.int (minI ns)))
  | [.int i, .int j] => some (.d (.int (mn i j)))
  | [.int i, .int j, .int k] => some (.d (.int (mn (mn i j) k)))
  | _ => none
def rMaxU (K : PySem.W.Frag) : List V → Hp → VK → Prop := fun xs H Q => rMax K xs H Q ∨ (∃ i j, xs = [.int i, .int j] ∧ Q (.int (if j > i then j else i)) H) ∨ rNuC3 nuMax3 xs H Q
def rMinU (K : PySem.W.Frag) : List V → Hp → VK → Prop := fun xs H Q => rMin K xs H Q ∨ (∃ i j, xs = [.int i, .int j] ∧ Q (.int (if j < i then j else i)) H) ∨ rNuC3 nuMin3 xs H Q
theorem call_maxU (hc : X.calm = true) : CallR X (.builtin "max") (rMaxU X.K) := (cr_max hc).or ((call_max2 hc).or (call_max3Nu hc))
theorem call_minU (hc : X.calm = true) : CallR X (.builtin "min") (rMinU X.K) := (cr_min hc).or ((call_min2 hc).or (call_min3Nu hc))
theorem n_max : NOk c maxK (rMaxU c.K) := by
  intro I H vs ds res Q ih hv hk q
  unfold maxK at hk
  split at hk
  · rename_i ds
    obtain ⟨v, rfl, h1⟩ := vw1 hv
    obtain ⟨p, us, rfl, s1, d1⟩ := h1.lst ih
    cases e : intsOf ds with
    | none => rw [e] at hk; cases hk
    | some ns =>
      rw [e, Option.bind_some] at hk
      split at hk
      · cases hk
      · rename_i hne
        cases hk
        rw [intsOf_eq e] at d1
        rw [dpall_ints d1] at s1
        refine .inl ⟨p, ns, rfl, s1, ?_, fun m h1 h2 => by rw [← maxI_is h1 h2]; exact ans_d ih (.int _) q⟩
        cases ns with
        | nil => exact absurd rfl hne
        | cons n ns => simp
  · cases hk
    obtain ⟨v, w, rfl, h1, h2⟩ := vw2 hv
    cases h1.int; cases h2.int
    exact .inr (.inl ⟨_, _, rfl, ans_d ih (.int _) q⟩)
  · cases hk
    obtain ⟨v, w, u, rfl, h1, h2, h3⟩ := vw3 hv
    cases h1.int; cases h2.int; cases h3.int
    refine .inr (.inr ⟨_, _, _, _, rfl, ?_, ans_d ih (.int _) q⟩)
    show (nuMax2 _ _).bind _ = _
    rw [nu_max, Option.bind_some, nu_max]
  · cases hk
theorem n_min : NOk c minK (rMinU c.K) := by
  intro I H vs ds res Q ih hv hk q
  unfold minK at hk
  split at hk
  · rename_i ds
    obtain ⟨v, rfl, h1⟩ := vw1 hv
    obtain ⟨p, us, rfl, s1, d1⟩ := h1.lst ih
    cases e : intsOf ds with
    | none => rw [e] at hk; cases hk
    | some ns =>
      rw [e, Option.bind_some] at hk
      split at hk
      · cases hk
      · rename_i hne
        cases hk
        rw [intsOf_eq e] at d1
        rw [dpall_ints d1] at s1
        refine .inl ⟨p, ns, rfl, s1, ?_, fun m h1 h2 => by rw [← minI_is h1 h2]; exact ans_d ih (.int _) q⟩
        cases ns with
        | nil => exact absurd rfl hne
        | cons n ns => simp
  · cases hk
    obtain ⟨v, w, rfl, h1, h2⟩ := vw2 hv
    cases h1.int; cases h2.int
    exact .inr (.inl ⟨_, _, rfl, ans_d ih (.int _) q⟩)
  · cases hk
    obtain ⟨v, w, u, rfl, h1, h2, h3⟩ := vw3 hv
    cases h1.int; cases h2.int; cases h3.int
    refine .inr (.inr ⟨_, _, _, _, rfl, ?_, ans_d ih (.int _) q⟩)
    show (nuMin2 _ _).bind _ = _
    rw [nu_min, Option.bind_some, nu_min]
  · cases hk
def sumK : List PyData → Option R
  | [.list ds] => (intsOf ds).map fun ns => .d (.int ns.sum)
  | _ => none
theorem n_sum : NOk c sumK (rSum c.K) := by
  intro I H vs ds res Q ih hv hk q
  unfold sumK at hk
  split at hk
  · rename_i ds
    obtain ⟨v, rfl, h1⟩ := vw1 hv
    obtain ⟨p, us, rfl, s1, d1⟩ := h1.lst ih
    cases e : intsOf ds with
    | none => rw [e] at hk; cases hk
    | some ns =>
      rw [e] at hk; cases hk
      rw [intsOf_eq e] at d1
      rw [dpall_ints d1] at s1
      exact ⟨p, ns, rfl, s1, ans_d ih (.int _) q⟩
  · cases hk
end
end TP
set_option linter.all false
set_option maxRecDepth 100000
set_option maxHeartbeats 2000000
/-! TPn: methods of lists and texts, slices, stores into lists; raise; a def. -/
namespace TP
open PySem PySem.Spec PyProof.Rows L2
variable [TabsOf]
section
variable {c : Ctx} {X : Cx} {E : XK}
theorem one_arg {I H : Hp} {vs : List V} {r : R} {ft : List Addr} (h : RepRs c I H vs [r] ft) : ∃ w, vs = [w] ∧ RepR c I H w r ft := by
  cases h with
  | cons h1 h2 => cases h2; exact ⟨_, rfl, by simpa using h1⟩
theorem no_arg {I H : Hp} {vs : List V} {ft : List Addr} (h : RepRs c I H vs [] ft) : vs = [] ∧ ft = [] := by
  cases h; exact ⟨rfl, rfl⟩
/-- an owned list is written, with data that were owned ft frozen first -/
theorem put_ol {I H : Hp} {p : Addr} {vs ws : List V} {ys : List PyData} {ft : List Addr} (ih : Same I H) (e : H p = some (.lst vs)) (ni : I p = none) (hn : p ∉ ft) (d : DpAll c.K (frz I H ft) ws ys) {Q : VK} {res : R}
    {y : V} (q : ∀ vres I' H' gp' fr, Stp ([p] ++ ft) I H (gp' ++ fr) I' H' → (gp' ++ fr).Nodup → RepR c I' H' (.ref p) (.ol ys) gp' → RepR c I' H' vres res fr → Q vres H') (hy : ∀ I' H', Same (frz I H ft) I' → RepR c I' H' y res []) : Q y (upd H p (.lst ws)) := by
  have z1 : Stp ([p] ++ ft) I H [p] (frz I H ft) H := (Stp.refl (fp := [p] ++ ft) ih).frz
  have n2 : frz I H ft p = none := frz_none ⟨ni, _, e, (fun _ z => nomatch z), fun _ z => nomatch z⟩ hn
  have z2 : Stp [p] (frz I H ft) H [p] (frz I H ft) (upd H p (.lst ws)) := Stp.ofUpd (frz_ih ih) e n2 (fun _ z => nomatch z) (fun _ z => nomatch z) fun _ z => nomatch z
  exact q y (frz I H ft) _ [p] [] (by simpa using z1.trans z2) (by simp) (.ol upd_same n2 d) (hy _ _ (Same.refl _))
def appendM : R → List R → Option (R × R)
  | .ol xs, [r] => (toD r).bind fun x => if xs.length < 100000 then some (.ol (xs ++ [x]), .d .none) else none
  | .on qs, [r] => if isJ r = true then none else if qs.length < 100000 then some (.on (qs ++ [r]), .d .none) else none
  | _, _ => none
theorem repRs_snoc {I H : Hp} : ∀ {vs : List V} {rs : List R} {fp : List Addr} {v : V} {r : R} {gp : List Addr}, RepRs c I H vs rs fp → RepR c I H v r gp → RepRs c I H (vs ++ [v]) (rs ++ [r]) (fp ++ gp)
  | _, _, _, _, _, gp, .nil, h => by
    have z : RepRs c I H [_] [_] (gp ++ []) := .cons h .nil
    simpa using z
  | _, _, _, _, _, _, .cons h1 h2, h => by
    rw [List.append_assoc]
    exact .cons h1 (repRs_snoc h2 h)
theorem n_append : MOk c appendM rAppend := by
  intro I H v r1 gp vs rs ft r1' res Q ih h1 h2 nd e q
  unfold appendM at e
  split at e
  · rename_i xs r
    cases e1 : toD r with
    | none => rw [e1] at e; cases e
    | some x =>
      rw [e1, Option.bind_some] at e
      split at e
      · rename_i hl
        cases e
        obtain ⟨w, rfl, hw⟩ := one_arg h2
        cases h1 with
        | @ol p us _ k1 k2 k3 =>
        have np : p ∉ ft := (List.nodup_cons.mp (by simpa using nd)).1
        have dx := hw.frz ih e1
        exact ⟨p, us, w, rfl, rfl, k1, by rw [dpall_len k3]; exact lt_line hl, put_ol ih k1 k2 np (dpall_app (dpall_mono (frz_ii ih) _ _ k3) (.cons dx .nil)) q fun _ _ _ => .d .non⟩
      · cases e
  · rename_i qs r
    split at e
    · cases e
    · split at e
      · rename_i hl
        cases e
        obtain ⟨w, rfl, hw⟩ := one_arg h2
        cases h1 with
        | @on p us _ fp k1 k2 k3 =>
        have nd' := List.nodup_cons.mp (show (p :: (fp ++ ft)).Nodup by simpa using nd)
        refine ⟨p, us, w, rfl, rfl, k1, by rw [k3.len]; exact lt_line hl, ?_⟩
        have z := Stp.ofUpd (u := .lst (us ++ [w])) ih k1 k2 (fun _ z => nomatch z) (fun _ z => nomatch z) fun _ z => nomatch z
        have kp : Kp (fp ++ ft) I H I (upd H p (.lst (us ++ [w]))) := z.kept (fun a ha => (List.mem_append.mp ha).elim (k3.own a) (hw.own a)) fun a ha hb => by
          rw [List.mem_singleton] at hb; subst hb; exact nd'.1 ha
        refine q .non I _ (p :: (fp ++ ft)) [] (by simpa using z.beside (gp := fp ++ ft)) (by simpa using nd) ?_ (.d .non)
        exact .on upd_same k2 (repRs_snoc (k3.keep (kp.sub fun a ha => List.mem_append_left _ ha)) (hw.keep (kp.sub fun a ha => List.mem_append_right _ ha)))
      · cases e
  · cases e
def extendM : R → List R → Option (R × R)
  | .ol xs, [.ol ys] => if xs.length + ys.length ≤ 100000 then some (.ol (xs ++ ys), .d .none) else none
  | _, _ => none
theorem n_extend : MOk c extendM rExtend := by
  intro I H v r1 gp vs rs ft r1' res Q ih h1 h2 nd e q
  unfold extendM at e
  split at e
  · rename_i xs ys
    split at e
    · rename_i hl
      cases e
      obtain ⟨w, rfl, hw⟩ := one_arg h2
      cases h1 with
      | @ol p us _ k1 k2 k3 =>
      cases hw with
      | @ol p' us' _ j1 j2 j3 =>
      have np : p ∉ [p'] := (List.nodup_cons.mp (by simpa using nd)).1
      exact ⟨p, p', us, us', rfl, rfl, k1, j1, by rw [dpall_len k3, dpall_len j3]; exact le_line' hl, put_ol ih k1 k2 np (dpall_app (dpall_mono (frz_ii ih) _ _ k3) (dpall_mono (frz_ii ih) _ _ j3)) q fun _ _ _ => .d .non⟩
    · cases e
  · cases e
def popM : R → List R → Option (R × R)
  | .ol xs, [] => (xs[xs.length - 1]?).map fun x => (.ol xs.dropLast, .d x)
  | .ol xs, [.d (.int i)] => (ixN xs.length i).bind fun j => if xs.length ≤ 100000 then (xs[j]?).map fun x => (.ol (xs.eraseIdx j), .d x) else none
  | _, _ => none
def rPopU : V → List V → Hp → VK → Prop := fun x vs H Q => rPop x vs H Q ∨ rPopAt x vs H Q
theorem mt_popU : MtR X "list.pop" rPopU := MtR.or mt_pop mt_popAt
theorem dpall_dropLast {K : PySem.W.Frag} {I : Hp} {vs : List V} {ds : List PyData} (h : DpAll K I vs ds) : DpAll K I vs.dropLast ds.dropLast := by
  rw [List.dropLast_eq_take, List.dropLast_eq_take, dpall_len h]
  exact dpall_take _ h
theorem dpall_erase {K : PySem.W.Frag} {I : Hp} : ∀ (j : Nat) {vs : List V} {ds : List PyData}, DpAll K I vs ds → DpAll K I (vs.eraseIdx j) (ds.eraseIdx j)
  | _, _, _, .nil => .nil
  | 0, _, _, .cons _ h => h
  | j + 1, _, _, .cons h1 h => .cons h1 (dpall_erase j h)
theorem dpall_of {K : PySem.W.Frag} {I : Hp} {ds : List PyData} {vs : List V} {j : Nat} {d : PyData} (h : DpAll K I vs ds) (e : ds[j]? = some d) : ∃ v, vs[j]? = some v ∧ Dp K I v d := by
  have hj : j < ds.length := (List.getElem?_eq_some_iff.mp e).1
  obtain ⟨v, hv⟩ : ∃ v, vs[j]? = some v := ⟨_, List.getElem?_eq_getElem (by rw [dpall_len h]; exact hj)⟩
  obtain ⟨d', e2, h2⟩ := dpall_at h hv
  rw [e] at e2; cases e2
  exact ⟨v, hv, h2⟩
theorem n_pop : MOk c popM rPopU := by
  intro I H v r1 gp vs rs ft r1' res Q ih h1 h2 nd e q
  unfold popM at e
  split at e
  · rename_i xs
    cases e1 : xs[xs.length - 1]? with
    | none => rw [e1] at e; cases e
    | some x =>
      rw [e1] at e; cases e
      obtain ⟨rfl, rfl⟩ := no_arg h2
      cases h1 with
      | @ol p us _ k1 k2 k3 =>
      obtain ⟨y, hy, dy⟩ := dpall_of k3 e1
      refine .inl ⟨p, us, y, rfl, rfl, k1, by rw [dpall_len k3]; exact hy, put_ol (ft := []) ih k1 k2 (by simp) (dpall_dropLast (dpall_mono (frz_ii ih) _ _ k3)) q fun I' H' s => .d (dp_mono s _ _ (dp_mono (frz_ii ih) _ _ dy))⟩
  · rename_i xs i
    cases e1 : ixN xs.length i with
    | none => rw [e1] at e; cases e
    | some j =>
      rw [e1, Option.bind_some] at e
      split at e
      · rename_i hl
        cases e2 : xs[j]? with
        | none => rw [e2] at e; cases e
        | some x =>
          rw [e2] at e; cases e
          obtain ⟨w, rfl, hw⟩ := one_arg h2
          obtain ⟨rfl, rfl⟩ := rep_i hw
          cases h1 with
          | @ol p us _ k1 k2 k3 =>
          obtain ⟨y, hy, dy⟩ := dpall_of k3 e2
          obtain ⟨s1, s2, s3, s4⟩ := ixN_seq e1
          refine .inr ⟨p, us, i, j, y, rfl, rfl, k1, by omega, by omega, by rw [dpall_len k3]; exact s1, hy, put_ol (ft := []) ih k1 k2 (by simp) (dpall_erase j (dpall_mono (frz_ii ih) _ _ k3)) q fun I' H' s => .d (dp_mono s _ _ (dp_mono (frz_ii ih) _ _ dy))⟩
      · cases e
  · cases e
def reverseM : R → List R → Option (R × R)
  | .ol xs, [] => some (.ol xs.reverse, .d .none)
  | _, _ => none
theorem n_reverse : MOk c reverseM rReverse := by
  intro I H v r1 gp vs rs ft r1' res Q ih h1 h2 nd e q
  unfold reverseM at e
  split at e
  · cases e
    obtain ⟨rfl, rfl⟩ := no_arg h2
    cases h1 with
    | @ol p us _ k1 k2 k3 =>
    exact ⟨p, us, rfl, rfl, k1, put_ol (ft := []) ih k1 k2 (by simp) (dpall_rev (dpall_mono (frz_ii ih) _ _ k3)) q fun _ _ _ => .d .non⟩
  · cases e
def clearM : R → List R → Option (R × R)
  | .ol xs, [] => some (.ol [], .d .none)
  | _, _ => none
theorem n_clear : MOk c clearM rClear := by
  intro I H v r1 gp vs rs ft r1' res Q ih h1 h2 nd e q
  unfold clearM at e
  split at e
  · cases e
    obtain ⟨rfl, rfl⟩ := no_arg h2
    cases h1 with
    | @ol p us _ k1 k2 k3 =>
    exact ⟨p, us, rfl, rfl, k1, put_ol (ft := []) ih k1 k2 (by simp) .nil q fun _ _ _ => .d .non⟩
  · cases e
/-! ### xs[k] = e -/
def stL : R → PyData → R → Option R
  | .ol xs, .int k, r => (ixN xs.length k).bind fun j => (toD r).map fun x => .ol (xs.set j x)
  | .on qs, .int k, r => (ixN qs.length k).bind fun j => if isJ r = true then none else some (.on (qs.set j r))
  | _, _, _ => none
theorem dpall_set {K : PySem.W.Frag} {I : Hp} : ∀ (j : Nat) {vs : List V} {ds : List PyData} {v : V} {d : PyData}, DpAll K I vs ds → Dp K I v d → DpAll K I (vs.set j v) (ds.set j d)
  | _, _, _, _, _, .nil, _ => .nil
  | 0, _, _, _, _, .cons _ h, hd => .cons hd h
  | j + 1, _, _, _, _, .cons h1 h, hd => .cons h1 (dpall_set j h hd)
theorem repRs_set {I H : Hp} : ∀ (j : Nat) {vs : List V} {rs : List R} {fp : List Addr} {v : V} {r : R} {gp : List Addr}, RepRs c I H vs rs fp → RepR c I H v r gp → (fp ++ gp).Nodup → j < rs.length → ∃ fp', RepRs c I H (vs.set j v) (rs.set j r) fp' ∧ fp'.Nodup ∧ ∀ a, a ∈ fp' → a ∈ fp ++ gp
  | j, _, _, _, _, _, _, .nil, _, _, hl => absurd hl (by simp)
  | 0, _, _, _, v, r, gp, .cons (gp := g0) (fp := fp) h1 h, hd, nd, _ => by
    simp only [List.append_assoc] at nd
    obtain ⟨n1, n2, n3⟩ := nd_app.mp nd
    refine ⟨gp ++ fp, .cons hd h, ?_, fun a ha => ?_⟩
    · exact nd_comm n2
    · simp only [List.mem_append] at ha ⊢
      rcases ha with z | z
      · exact .inr z
      · exact .inl (.inr z)
  | j + 1, _, _, _, v, r, gp, .cons (gp := g0) (fp := fp) h1 h, hd, nd, hl => by
    simp only [List.append_assoc] at nd
    obtain ⟨n1, n2, n3⟩ := nd_app.mp nd
    obtain ⟨fp', k1, k2, k3⟩ := repRs_set j h hd n2 (by simpa using hl)
    refine ⟨g0 ++ fp', .cons h1 k1, nd_app.mpr ⟨n1, k2, fun a ha hb => n3 a ha (k3 a hb)⟩, fun a ha => ?_⟩
    simp only [List.mem_append] at ha ⊢
    rcases ha with z | z
    · exact .inl (.inl z)
    · rcases List.mem_append.mp (k3 a z) with y | y
      · exact .inl (.inr y)
      · exact .inr y
theorem so_list : StOk c stL rSetL := by
  intro I H v r1 gp y kx w r fr r1' Q ih h1 hy hw nd e q
  unfold stL at e
  split at e
  · rename_i xs k
    cases hy.int
    cases e1 : ixN xs.length k with
    | none => rw [e1] at e; cases e
    | some j =>
      rw [e1, Option.bind_some] at e
      cases e2 : toD r with
      | none => rw [e2] at e; cases e
      | some x =>
        rw [e2] at e; cases e
        cases h1 with
        | @ol p us _ k1 k2 k3 =>
        have np : p ∉ fr := (List.nodup_cons.mp (by simpa using nd)).1
        have dx := hw.frz ih e2
        refine ⟨p, us, k, j, rfl, rfl, k1, by rw [dpall_len k3]; exact e1, ?_⟩
        exact put_ol (Q := fun _ H' => Q H') (y := .non) (res := .d .none) ih k1 k2 np (dpall_set j (dpall_mono (frz_ii ih) _ _ k3) dx) (fun vres I' H' gp' fr' st nd' rr rv => q I' H' gp' (st.less fun a ha => List.mem_append_left _ ha) (nd_app.mp nd').1 rr) fun _ _ _ => .d .non
  · rename_i qs k
    cases hy.int
    cases e1 : ixN qs.length k with
    | none => rw [e1] at e; cases e
    | some j =>
      rw [e1, Option.bind_some] at e
      split at e
      · cases e
      · cases e
        cases h1 with
        | @on p us _ fp k1 k2 k3 =>
        have nd' := List.nodup_cons.mp (show (p :: (fp ++ fr)).Nodup by simpa using nd)
        refine ⟨p, us, k, j, rfl, rfl, k1, by rw [k3.len]; exact e1, ?_⟩
        have z := Stp.ofUpd (u := .lst (us.set j w)) ih k1 k2 (fun _ z => nomatch z) (fun _ z => nomatch z) fun _ z => nomatch z
        have kp : Kp (fp ++ fr) I H I (upd H p (.lst (us.set j w))) := z.kept (fun a ha => (List.mem_append.mp ha).elim (k3.own a) (hw.own a)) fun a ha hb => by
          rw [List.mem_singleton] at hb; subst hb; exact nd'.1 ha
        obtain ⟨f2, r2, n2, m2⟩ := repRs_set j (k3.keep (kp.sub fun a ha => List.mem_append_left _ ha)) (hw.keep (kp.sub fun a ha => List.mem_append_right _ ha)) nd'.2 (ixN_seq e1).2.1
        refine q I _ (p :: f2) ?_ (List.nodup_cons.mpr ⟨fun ha => nd'.1 (m2 _ ha), n2⟩) (.on upd_same k2 r2)
        have b := z.beside (gp := fp ++ fr)
        refine (b.more fun a ha => by simpa using ha).less fun a ha => ?_
        rcases List.mem_cons.mp ha with rfl | ha
        · simp
        · exact List.mem_append_right _ (m2 a ha)
  · cases e
/-! ### texts -/
def isStr : R → Bool
  | .d (.str _) => true
  | _ => false
theorem ty_str : TyOk c "str" isStr := fun I H v r gp h e => by
  cases h with
  | d h =>
    cases h with
    | str => exact rfl
    | _ => cases e
  | _ => cases e
def splitM : R → List R → Option (R × R)
  | .d (.str a), [.d (.str b)] => if (b.length == 0) = false ∧ a.length ≤ 100000 then some (.d (.str a), .ol ((Txt.split a b).map PyData.str)) else none
  | _, _ => none
def rSplit : V → List V → Hp → VK → Prop := fun x xs H Q => ∃ a b, x = .str a ∧ xs = [.str b] ∧ (b.length == 0) = false ∧ a.length + 2 ≤ sizeLine ∧ rNewStrs (Txt.split a b) H Q
theorem mt_splitU : MtR X "str.split" rSplit := mt_split
theorem rep_s {I H : Hp} {v : V} {i : Str} {gp : List Addr} (h : RepR c I H v (.d (.str i)) gp) : v = .str i ∧ gp = [] := by
  cases h with | d h => cases h; exact ⟨rfl, rfl⟩
theorem dpall_str {K : PySem.W.Frag} {I : Hp} : ∀ ns : List Str, DpAll K I (ns.map V.str) (ns.map PyData.str)
  | [] => .nil
  | _ :: ns => .cons (.str _) (dpall_str ns)
theorem n_split : MOk c splitM rSplit := by
  intro I H v r1 gp vs rs ft r1' res Q ih h1 h2 nd e q
  unfold splitM at e
  split at e
  · rename_i a b
    split at e
    · rename_i hc
      cases e
      obtain ⟨w, rfl, hw⟩ := one_arg h2
      obtain ⟨rfl, rfl⟩ := rep_s h1
      obtain ⟨rfl, rfl⟩ := rep_s hw
      refine ⟨a, b, rfl, rfl, hc.1, ?_, fun p hp => ?_⟩
      · have : 100002 ≤ sizeLine := by decide
        omega
      · exact q (.ref p) I _ [] [p] (by simpa using stp_new ih hp) (by simp) (.d (.str _)) (.ol upd_same (ih.free hp) (dpall_str _))
    · cases e
  · cases e
def strsOf : List PyData → Option (List Str)
  | [] => some []
  | .str i :: ds => (strsOf ds).map (i :: ·)
  | _ => none
theorem strsOf_eq : ∀ {ds : List PyData} {ns : List Str}, strsOf ds = some ns → ds = ns.map PyData.str
  | [], _, h => by cases h; rfl
  | .str i :: ds, ns, h => by
    unfold strsOf at h
    cases e : strsOf ds with
    | none => rw [e] at h; cases h
    | some ms => rw [e] at h; cases h; rw [strsOf_eq e]; rfl
  | .none :: _, _, h => by cases h
  | .bool _ :: _, _, h => by cases h
  | .int _ :: _, _, h => by cases h
  | .list _ :: _, _, h => by cases h
  | .tuple _ :: _, _, h => by cases h
  | .dict _ :: _, _, h => by cases h
theorem strsOf_map (ns : List Str) : strsOf (ns.map PyData.str) = some ns := by
  induction ns with
  | nil => rfl
  | cons n ns ih => show (strsOf (ns.map PyData.str)).map (n :: ·) = _; rw [ih]; rfl
def joinOk (a : Str) (ys : List Str) : Bool := decide ((ys.map (·.length)).sum + ys.length * a.length ≤ 16777216)
def joinM : R → List R → Option (R × R)
  | .d (.str a), [r] => (match toD r with
    | some (.list ds) => (strsOf ds).bind fun ys => if joinOk a ys = true then some (.d (.str a), .d (.str (Txt.join a ys))) else none
    | _ => none)
  | _, _ => none
def rJoin (K : PySem.W.Frag) : V → List V → Hp → VK → Prop := fun x xs H Q => ∃ a p, ∃ ys : List Str, x = .str a ∧ xs = [.ref p] ∧ (SqL K H p (ys.map V.str) ∨ SqT K H p (ys.map V.str)) ∧
    (ys.map (·.length)).sum + ys.length * a.length ≤ 16777216 ∧ Q (.str (Txt.join a ys)) H
theorem mt_joinU : MtR X "str.join" (rJoin X.K) := mt_join
theorem n_join : MOk c joinM (rJoin c.K) := by
  intro I H v r1 gp vs rs ft r1' res Q ih h1 h2 nd e q
  unfold joinM at e
  split at e
  · rename_i a r
    split at e
    · rename_i ds e1
      cases e2 : strsOf ds with
      | none => rw [e2] at e; cases e
      | some ys =>
        rw [e2, Option.bind_some] at e
        split at e
        · rename_i hj
          cases e
          obtain ⟨w, rfl, hw⟩ := one_arg h2
          obtain ⟨rfl, rfl⟩ := rep_s h1
          have dx := dp_mono (frz_ih ih) _ _ (hw.frz ih e1)
          rw [strsOf_eq e2] at dx
          cases dx with
          | @lst p us _ hs ha =>
            rw [dpall_strs ha] at hs
            refine ⟨a, p, ys, rfl, rfl, .inl hs, by simpa [joinOk] using hj, ?_⟩
            exact q _ I H [] [] ((Stp.refl (fp := [] ++ ft) ih).less (by simp)) (by simp) (.d (.str _)) (.d (.str _))
        · cases e
    · cases e
  · cases e
end
end TP
set_option linter.all false
set_option maxRecDepth 100000
set_option maxHeartbeats 2000000
/-! TPo: slices; raise; a def. -/
namespace TP
open PySem PySem.Spec PyProof.Rows L2
variable [TabsOf]
section
variable {c : Ctx} {X : Cx} {E : XK}
/-! ### slices -/
def asIO (r : R) : Option Int := match r with
  | .d (.int i) => some i
  | _ => none
/-- a part of a slice -/
def cPart (f : Option EF) (ρ : List R) : Rs (Option Int) := match f with
  | none => .ok none ρ
  | some f => (f ρ).bind fun r ρ1 => match asIO r with
    | some i => .ok (some i) ρ1
    | none => .no
def tPO (c : Ctx) (E : XK) (f : Option EF) : TO := match f with
  | none => tNoPart
  | some f => tPart (tE c E f)
def SPt (X : Cx) (c : Ctx) (E : XK) (e : Option Expr) (f : Option EF) : Prop := PO X e (tPO c E f)
theorem spt_none : SPt X c E none none := po_none
theorem spt_some {e : Expr} {f : EF} (h : SE X c E e f) : SPt X c E (some e) (some f) := po_some h
def cutD (lo hi : Option Int) : PyData → Option R
  | .list xs => some (.ol ((xs.drop (HT.sIx xs.length 0 lo)).take (HT.sIx xs.length xs.length hi - HT.sIx xs.length 0 lo)))
  | .str z => if z.length ≤ 100000 then some (.d (.str (cutS z lo hi))) else none
  | _ => none
def cSlice (i : Nat) (lo hi : Option EF) : EF := fun ρ => match ρ[i]? with
  | some r => if isJ r = true then .no else (cPart lo ρ).bind fun l ρ1 => (cPart hi ρ1).bind fun u ρ2 => match ((ρ2[i]?).bind vw).bind (cutD l u) with
    | some r => .ok r ρ2
    | none => .no
  | none => .no
theorem part_run {f : Option EF} {I H : Hp} {σ : L2.St} {ρ : List R} {fp : List Addr} {P : Option Int → List R → Prop} {Q : Option Int → Hp → Prop} (G : Good c I H σ ρ fp) (o : OutG c E I H fp (cPart f ρ) P)
    (h : ∀ i ρ1 I1 H1 fp1, Good c I1 H1 σ ρ1 fp1 → Stp fp I H fp1 I1 H1 → P i ρ1 → Q i H1) : tPO c E f σ H Q := by
  cases f with
  | none => exact h none ρ I H fp G (Stp.refl G.ih) o
  | some f =>
    refine ⟨I, ρ, fp, G, OutG.imp (OutG.bind o) fun r ρ1 o1 v I1 H1 fp1 fr G1 r1 nd st => ?_⟩
    cases r with
    | d x =>
      cases x with
      | int i =>
        obtain ⟨rfl, rfl⟩ := rep_i r1
        exact ⟨i, rfl, h (some i) ρ1 I1 H1 fp1 G1 (by simpa using st) o1⟩
      | _ => exact o1.elim
    | _ => exact o1.elim
def rSlU (K : PySem.W.Frag) : V → Option Int → Option Int → Hp → VK → Prop := fun x lo hi H Q => rSlL K x lo hi H Q ∨ rSlS x lo hi H Q
theorem se_slice {e : Expr} {i : Nat} {lo hi : Option Expr} {fl fu : Option EF} {p2 pos : Pos} (ok : CtxOk X c) (he : PE X e (tVar i)) (hl : SPt X c E lo fl) (hu : SPt X c E hi fu) : SE X c E (.Subscript e (.Slice lo hi none p2) pos) (cSlice i fl fu) := by
  refine pe_imp (pe_slice (sl_list.or sl_str) he hl hu) fun σ H Q ⟨I, ρ, fp, G, o⟩ => ?_
  unfold cSlice at o
  cases e0 : ρ[i]? with
  | none => rw [e0] at o; exact o.elim
  | some r0 =>
    simp only [e0] at o
    split at o
    · exact o.elim
    · rename_i nj
      obtain ⟨v, hv⟩ := G.rep.val e0 (by rintro rfl; exact nj rfl)
      refine ⟨v, hv, part_run G o.bind fun l ρ1 I1 H1 fp1 G1 st1 p1 => part_run G1 (OutG.wx p1 st1).bind fun u ρ2 I2 H2 fp2 G2 st2 p2 => ?_⟩
      cases e1 : ((ρ2[i]?).bind vw).bind (cutD l u) with
      | none => rw [e1] at p2; exact p2.elim
      | some r =>
        rw [e1] at p2
        cases e2 : ρ2[i]? with
        | none => rw [e2] at e1; cases e1
        | some r2 =>
          rw [e2, Option.bind_some] at e1
          cases e3 : vw r2 with
          | none => rw [e3] at e1; cases e1
          | some x =>
            rw [e3, Option.bind_some] at e1
            obtain ⟨_, gp, _, _, h3, _⟩ := G2.rep.at e2
            rcases h3 with rfl | ⟨v', h4, h5⟩
            · cases e3
            rw [hv] at h4; cases h4
            have hw := vw_of h5 e3
            have st := st1.trans st2
            have fin : ∀ v I' H' fr, Stp [] I2 H2 fr I' H' → fr.Nodup → RepR c I' H' v r fr → Q v H' := fun v I3 H3 fr st3 nd3 r3 =>
              p2 v I3 H3 fp2 fr (G2.new st3) r3 (nd_new G2 st3 nd3) (st.new st3)
            unfold cutD at e1
            split at e1
            · rename_i xs
              cases e1
              obtain ⟨p, us, rfl, s1, d1⟩ := hw.lst G2.ih
              refine .inl ⟨p, us, rfl, by rw [ok.k]; exact s1, fun q hq => ans_ol G2.ih hq ?_ fin⟩
              unfold cutV
              rw [dpall_len d1]
              exact dpall_take _ (dpall_drop _ d1)
            · split at e1
              · rename_i z hl
                cases e1
                cases hw.str
                exact .inr ⟨z, rfl, le_line' hl, ans_d G2.ih (.str _) fin⟩
              · cases e1
            · cases e1
/-- xs[::-1] -/
def cRev (f : EF) : EF := fun ρ => (f ρ).bind fun r ρ1 => asL r ρ1 fun ds ρ1 => .ok (.ol ds.reverse) ρ1
theorem se_rev {e : Expr} {f : EF} {k : Nat} {p1 p2 p3 pos : Pos} (ok : CtxOk X c) (he : SE X c E e f) : SE X c E (.Subscript e (.Slice none none (some (.UnaryOp .USub (.Constant (.int 1) k p1) p2)) p3) pos) (cRev f) := by
  refine pe_imp (pe_revL he) fun σ H Q ⟨I, ρ, fp, G, o⟩ => ⟨I, ρ, fp, G, OutG.imp (OutG.bind o) fun r ρ1 o1 v I1 H1 fp1 fr G1 r1 nd st => ?_⟩
  unfold asL at o1
  split at o1
  · rename_i ds e1
    have dp := r1.frz G1.ih e1
    have G2 := G1.frz r1 nd
    have st2 := st.frz
    cases dp with
    | @lst p us _ hs ha =>
      refine ⟨p, us, rfl, by rw [ok.k]; exact sm_l G2.ih hs, fun q hq => ?_⟩
      have st3 := stp_new (o := .lst us.reverse) G2.ih hq
      exact o1 (.ref q) _ _ fp1 [q] (G2.new st3) (.ol upd_same (G2.ih.free hq) (dpall_rev ha)) (nd_new G2 st3 (by simp)) (st2.new st3)
  · exact o1.elim
/-! ### raise -/
def cRaise (n : Nat) : SF := fun ρ => .ex ⟨n, none⟩ ρ
theorem ss_raise {n : Nat} {e : Expr} {pos : Pos} (hc : X.calm = true) (tk : Takes X (fun cls d _ H => E cls d H)) (he : PMk X e (fun _ H Q => Q (.ref (c.cls n)) none H)) : SS X c E (.Raise (some e) none pos) (cRaise n) :=
  ps_imp (ps_raise hc tk he) fun D σ H ⟨I, ρ, fp, G, o⟩ => o σ I H fp G (Stp.refl G.ih)
end
/-! ### a def -/
section
variable {P : Program} {w : World} {mg : Str → Option Value} {base : Heap} {c : Ctx}
/-- THE RULE for a def: its body computes the term s -/
theorem def_ok {x qual : Str} {st : Stmt} {f : Addr} {fd : FuncData} {N ps : List Str} {k : Nat} {s : SF} (F : Fun c.K x qual st f fd) (S : FnScope N ps (defScope st))
    (hb : ∀ (cdv : Value) (A : Around) (outer : List Env) (sh : Shared) (H : Hp) (E : XK) (pv : Nat → V), Room k (A.deeper (envOfC qual (defScope st) sh.heap.objs.size f cdv)) →
      SSs (cxOf (L2.CX P w) P w c.K mg base N qual (defScope st) f cdv A outer sh H E) (c.at (List.range ps.length) pv) E (defBody st) s) :
    FnOk P w c.K mg base (L2.CX P w) (k + 1) f fd ps (spG c (runG s N.length ps.length)) := by
  refine F.okX S (fun vs H Q E h => runG_len h) fun cdv A outer sh H vs Q E hr h => ?_
  exact ⟨tS (c.at (List.range ps.length) fun i => vs.getD i .non) E s, hb cdv A outer sh H E _ hr, body_run (c := c.at (List.range ps.length) fun i => vs.getD i .non) (spG_at (c := c.at (List.range ps.length) fun i => vs.getD i .non) (pi := c.pi) (pv := c.pv) h) rfl fun i v hv => by
    show vs.getD i .non = v
    rw [List.getD_eq_getElem?_getD, hv]; rfl⟩
end
end TP
namespace TP
open PySem PySem.Spec PyProof.Rows L2
variable [TabsOf]
section
variable {P : Program} {w : World} {mg : Str → Option Value} {base : Heap} {c : Ctx}
/-- .. with what its derivation asks for -/
theorem def_is {x qual : Str} {st : Stmt} {f : Addr} {fd : FuncData} {N ps : List Str} {k : Nat} {s : SF} (hcP : c.prog = P) (hcw : c.wo = w) (hsch : ∀ n, (c.sch n).Nodup) (F : Fun c.K x qual st f fd) (S : FnScope N ps (defScope st))
    (hb : ∀ (cdv : Value) (A : Around) (outer : List Env) (sh : Shared) (H : Hp) (E : XK) (pv : Nat → V), Room k (A.deeper (envOfC qual (defScope st) sh.heap.objs.size f cdv)) →
      CtxOk (cxOf (L2.CX P w) P w c.K mg base N qual (defScope st) f cdv A outer sh H E) (c.at (List.range ps.length) pv) →
      Takes (cxOf (L2.CX P w) P w c.K mg base N qual (defScope st) f cdv A outer sh H E) (fun cls d _ H => E cls d H) →
      Passes (L2.CX P w) (cxOf (L2.CX P w) P w c.K mg base N qual (defScope st) f cdv A outer sh H E) E →
      PassesOwn (model P w) (A.deeper (envOfC qual (defScope st) sh.heap.objs.size f cdv)) (envOfC qual (defScope st) sh.heap.objs.size f cdv) (cxOf (L2.CX P w) P w c.K mg base N qual (defScope st) f cdv A outer sh H E).xe →
      (A.deeper (envOfC qual (defScope st) sh.heap.objs.size f cdv)).units + 64 < cLine → (A.deeper (envOfC qual (defScope st) sh.heap.objs.size f cdv)).units + 65 < cLine →
      SSs (cxOf (L2.CX P w) P w c.K mg base N qual (defScope st) f cdv A outer sh H E) (c.at (List.range ps.length) pv) E (defBody st) s) :
    FnOk P w c.K mg base (L2.CX P w) (k + 1) f fd ps (spG c (runG s N.length ps.length)) :=
  def_ok F S fun cdv A outer sh H E pv hr => by
    have tk : Takes (cxOf (L2.CX P w) P w c.K mg base N qual (defScope st) f cdv A outer sh H E) (fun cls d _ H => E cls d H) := takes_of rfl rfl rfl rfl
    exact hb cdv A outer sh H E pv hr ⟨rfl, hsch, hcP.symm, hcw.symm⟩ tk (passes_call tk fun _ _ _ _ h => h) (passes_of rfl) hr.units (by have := hr.un; omega)
end
end TP
namespace TP
open L2 PySem
variable [TabsOf]
theorem CtxOk.b {X : Cx} {c : Ctx} {s : Shared} {H : Hp} {scope : Scope} {e : Env} {fp : List Addr} (ok : CtxOk X c) : CtxOk (X.blk s H scope e fp) c := ⟨ok.k, ok.sch, ok.pr, ok.wo⟩
end TP
namespace TP
variable [TabsOf]
theorem npi {c : TP.Ctx} {n i : Nat} {pv : Nat → L2.V} (h : n ≤ i) : i ∉ (TP.Ctx.at c (List.range n) pv).pi := fun z => by
  have := List.mem_range.mp z
  omega
end TP
namespace TP
open L2 PySem
variable [TabsOf]
theorem npi_all {c : TP.Ctx} {n : Nat} {pv : Nat → L2.V} {is : List Nat} (h : ∀ i, i ∈ is → n ≤ i) : ∀ i, i ∈ is → i ∉ (TP.Ctx.at c (List.range n) pv).pi := fun i hi => npi (h i hi)
theorem blkOk_of {N N' : List Str} {sc sc' scope : Scope} {own : List (Str × Nat)} (e1 : N = N') (e2 : sc.names = sc'.names) (h : BlkOk N' sc' scope own) : BlkOk N sc scope own := by
  subst e1
  exact ⟨h.kind, h.uniq, h.ix, fun y hy hf => by rw [e2]; exact h.free y hy hf, h.own⟩
end TP
namespace TP
open PySem PySem.Spec PyProof.Rows L2
variable [TabsOf]
/-- a promise that is never asked for -/
theorem def_no {P : Program} {w : World} {mg : Str → Option Value} {base : Heap} {c : TP.Ctx} {x qual : Str} {st : Stmt} {f : Addr} {fd : FuncData} {N ps : List Str} {k : Nat} (F : Fun c.K x qual st f fd) (S : FnScope N ps (defScope st)) :
    FnOk P w c.K mg base (L2.CX P w) (k + 1) f fd ps (spG c fun _ => .no) :=
  F.okX S (fun vs H Q E h => by obtain ⟨_, _, _, _, _, _, _, h⟩ := h; exact h.elim) fun cdv A outer sh H vs Q E hr h => by obtain ⟨_, _, _, _, _, _, _, h⟩ := h; exact h.elim
end TP
set_option linter.all false
set_option maxRecDepth 100000
set_option maxHeartbeats 2000000
/-! TPp: a, b = x, y; xs * n; a place against the empty list. -/
namespace TP
open PySem PySem.Spec PyProof.Rows L2
variable [TabsOf]
section
variable {c : Ctx} {X : Cx} {E : XK}
def cPar2 (i j : Nat) (os : List Op) : SF := fun ρ => (cOps os ρ).bind fun hs ρ1 => match hdRs hs with
  | some [r, q] => .ok .nx ((ρ1.set i r).set j q)
  | _ => .no
def cPar3 (i j l : Nat) (os : List Op) : SF := fun ρ => (cOps os ρ).bind fun hs ρ1 => match hdRs hs with
  | some [r, q, t] => .ok .nx (((ρ1.set i r).set j q).set l t)
  | _ => .no
theorem ss_par2 {i j : Nat} {x y : Str} {a b : Expr} {os : List Op} {px py pt pos : Pos} {kt k2 pt2} (ok : CtxOk X c) (hi0 : i ∉ c.pi) (hj0 : j ∉ c.pi) (hc : X.calm = true) (hN : X.N.Nodup) (hi : X.N[i]? = some x) (hj : X.N[j]? = some y) (hij : i ≠ j)
    (hx : X.env.scope.names.lookup x = some .local) (hy : X.env.scope.names.lookup y = some .local) (h : SOs X c E [a, b] os)
    (hw : swappedStores [.Tuple [.Name x px, .Name y py] kt pt] (.Tuple [a, b] k2 pt2) X.env = pure (some [x, y]))
    (hs : swapsWithSole [.Tuple [.Name x px, .Name y py] kt pt] (.Tuple [a, b] k2 pt2) pos.line X.env = pure false := by rfl) :
    SS X c E (.Assign [.Tuple [.Name x px, .Name y py] kt pt] (.Tuple [a, b] k2 pt2) pos) (cPar2 i j os) := by
  obtain ⟨ts, pa, tr⟩ := h.pa
  refine ps_imp (ps_par hc hN hi hj hij hx hy pa hw hs) fun D σ H ⟨I, ρ, fp, G, out⟩ => ?_
  refine ops_run ok.sch tr G out.bind fun hd ρ1 p vs I1 H1 fp1 ft G1 hr nd st => ?_
  split at p
  · rename_i r q e1
    have rs := hdRs_ok hr e1
    cases rs with
    | @cons v _ g1 _ _ _ k1 rs =>
    cases rs with
    | @cons w _ g2 _ _ _ k2 rs =>
    cases rs
    simp only [List.append_nil] at nd st
    obtain ⟨n1, n2, n3⟩ := nd_app.mp nd
    obtain ⟨m1, m2, m3⟩ := nd_app.mp n2
    obtain ⟨f1, G2, s1⟩ := G1.set k1 (nd_app.mpr ⟨n1, m1, fun a ha hb => n3 a ha (List.mem_append_left _ hb)⟩) hi0
    have nd2 : (f1 ++ g2).Nodup := nd_app.mpr ⟨G2.nd, m2, fun a ha hb => by
      rcases List.mem_append.mp (s1 a ha) with z | z
      · exact n3 a z (List.mem_append_right _ hb)
      · exact m3 a z hb⟩
    obtain ⟨f2, G3, s2⟩ := G2.set k2 nd2 hj0
    refine ⟨v, w, rfl, p _ I1 H1 f2 G3 (st.less fun a ha => ?_)⟩
    rcases List.mem_append.mp (s2 a ha) with z | z
    · rcases List.mem_append.mp (s1 a z) with y | y
      · exact List.mem_append_left _ y
      · exact List.mem_append_right _ (List.mem_append_left _ y)
    · exact List.mem_append_right _ (List.mem_append_right _ z)
  · exact p.elim
theorem ss_par3 {i j l : Nat} {x y z : Str} {a b d : Expr} {os : List Op} {px py pz pt pos : Pos} {kt k2 pt2} (ok : CtxOk X c) (hi0 : i ∉ c.pi) (hj0 : j ∉ c.pi) (hl0 : l ∉ c.pi) (hc : X.calm = true) (hN : X.N.Nodup) (hi : X.N[i]? = some x) (hj : X.N[j]? = some y) (hl : X.N[l]? = some z) (hij : i ≠ j) (hil : i ≠ l) (hjl : j ≠ l)
    (hx : X.env.scope.names.lookup x = some .local) (hy : X.env.scope.names.lookup y = some .local) (hz : X.env.scope.names.lookup z = some .local) (h : SOs X c E [a, b, d] os)
    (hw : swappedStores [.Tuple [.Name x px, .Name y py, .Name z pz] kt pt] (.Tuple [a, b, d] k2 pt2) X.env = pure (some [x, y, z]))
    (hs : swapsWithSole [.Tuple [.Name x px, .Name y py, .Name z pz] kt pt] (.Tuple [a, b, d] k2 pt2) pos.line X.env = pure false := by rfl) :
    SS X c E (.Assign [.Tuple [.Name x px, .Name y py, .Name z pz] kt pt] (.Tuple [a, b, d] k2 pt2) pos) (cPar3 i j l os) := by
  obtain ⟨ts, pa, tr⟩ := h.pa
  refine ps_imp (ps_par3 hc hN hi hj hl hij hil hjl hx hy hz pa hw hs) fun D σ H ⟨I, ρ, fp, G, out⟩ => ?_
  refine ops_run ok.sch tr G out.bind fun hd ρ1 p vs I1 H1 fp1 ft G1 hr nd st => ?_
  split at p
  · rename_i r q t e1
    have rs := hdRs_ok hr e1
    cases rs with
    | @cons v _ g1 _ _ _ k1 rs =>
    cases rs with
    | @cons w _ g2 _ _ _ k2 rs =>
    cases rs with
    | @cons u _ g3 _ _ _ k3 rs =>
    cases rs
    simp only [List.append_nil] at nd st
    obtain ⟨n1, n2, n3⟩ := nd_app.mp nd
    obtain ⟨m1, m2, m3⟩ := nd_app.mp n2
    obtain ⟨q1, q2, q3⟩ := nd_app.mp m2
    obtain ⟨f1, G2, s1⟩ := G1.set k1 (nd_app.mpr ⟨n1, m1, fun a ha hb => n3 a ha (List.mem_append_left _ hb)⟩) hi0
    have nd2 : (f1 ++ g2).Nodup := nd_app.mpr ⟨G2.nd, q1, fun a ha hb => by
      rcases List.mem_append.mp (s1 a ha) with z | z
      · exact n3 a z (List.mem_append_right _ (List.mem_append_left _ hb))
      · exact m3 a z (List.mem_append_left _ hb)⟩
    obtain ⟨f2, G3, s2⟩ := G2.set k2 nd2 hj0
    have nd3 : (f2 ++ g3).Nodup := nd_app.mpr ⟨G3.nd, q2, fun a ha hb => by
      rcases List.mem_append.mp (s2 a ha) with z | z
      · rcases List.mem_append.mp (s1 a z) with y | y
        · exact n3 a y (List.mem_append_right _ (List.mem_append_right _ hb))
        · exact m3 a y (List.mem_append_right _ hb)
      · exact q3 a z hb⟩
    obtain ⟨f3, G4, s3⟩ := G3.set k3 nd3 hl0
    refine ⟨v, w, u, rfl, p _ I1 H1 f3 G4 (st.less fun a ha => ?_)⟩
    rcases List.mem_append.mp (s3 a ha) with z | z
    · rcases List.mem_append.mp (s2 a z) with z | z
      · rcases List.mem_append.mp (s1 a z) with y | y
        · exact List.mem_append_left _ y
        · exact List.mem_append_right _ (List.mem_append_left _ y)
      · exact List.mem_append_right _ (List.mem_append_right _ (List.mem_append_left _ z))
    · exact List.mem_append_right _ (List.mem_append_right _ (List.mem_append_right _ z))
  · exact p.elim
/-! ### a temporary list times an int -/
noncomputable def cRep (f g : EF) : EF := fun ρ => (f ρ).bind fun r ρ1 => match r with
  | .ol xs => (g ρ1).bind fun q ρ2 => asI q ρ2 fun k ρ2 => @ite _ (-(2 ^ 63) ≤ k ∧ k < 2 ^ 63 ∧ xs.length * k.toNat ≤ 100000) (Classical.propDecidable _) (.ok (.ol (List.replicate k.toNat xs).flatten) ρ2) .no
  | _ => .no
theorem se_rep {a b : Expr} {f g : EF} {pos : Pos} (ha : SE X c E a f) (hb : SE X c E b g) : SE X c E (.BinOp a .Mult b pos) (cRep f g) := by
  refine pe_imp (pe_op op_rep ha hb) fun σ H Q ⟨I, ρ, fp, G, o⟩ => ⟨I, ρ, fp, G, OutG.imp (OutG.bind o) fun r ρ1 o1 v I1 H1 fp1 gp G1 r1 nd st => ?_⟩
  cases r1 with
  | @ol p us xs k1 k2 k3 =>
    have st1 : Stp fp I H fp1 I1 H1 := st.less fun x hx => List.mem_append_left _ hx
    refine ⟨I1, ρ1, fp1, G1, (OutG.wx (OutG.bind o1) st1).imp fun q ρ2 o2 w I2 H2 fp2 fr G2 r2 nd2 st2 => ?_⟩
    obtain ⟨k, rfl, o3⟩ := asI_of o2
    obtain ⟨rfl, rfl⟩ := rep_i r2
    split at o3
    · rename_i hk
      rw [List.append_nil] at st2
      obtain ⟨n1, n2, n3⟩ := nd_app.mp nd
      have kp := st2.kept (gp := [p]) (fun a ha => by rw [List.mem_singleton.mp ha]; exact ⟨k2, _, k1, (fun _ z => nomatch z), fun _ z => nomatch z⟩) fun a ha hb => n3 a hb ha
      obtain ⟨e1, e2⟩ := kp.own p (by simp)
      refine ⟨p, k, us, rfl, rfl, e1.trans k1, hk.1, hk.2.1, by rw [dpall_len k3]; exact le_line' hk.2.2, fun q hq => ?_⟩
      have st3 := stp_new (o := .lst (List.replicate k.toNat us).flatten) G2.ih hq
      have st4 : Stp fp I H fp2 I2 H2 := st1.trans st2
      exact o3 (.ref q) I2 _ fp2 [q] (G2.new st3) (.ol upd_same (G2.ih.free hq) (dpall_flat (dpall_mono st2.ii _ _ k3) _)) (nd_new G2 st3 (by simp)) (st4.new st3)
    · exact o3.elim
  | _ => exact o1.elim
/-! ### a place == [], != [] -/
def cNil (neg : Bool) (i : Nat) (π : List (Sx × Nat)) : EF := fun ρ => match (getP ρ i π).bind vw with
  | some (.list xs) => if SeqAt.shaped (.list xs) = true then .ok (.d (.bool (xs.isEmpty != neg))) ρ else .no
  | _ => .no
theorem eqv_nil (xs : List PyData) : PyData.eqv (.list xs) (.list []) = xs.isEmpty := by
  cases xs <;> simp [PyData.eqv, PyData.eqvAll]
theorem nil_run {i : Nat} {π : List (Sx × Nat)} {neg : Bool} (ok : CtxOk X c) {σ : L2.St} {H : Hp} {Q : VK} (h : tE c E (cNil neg i π) σ H Q) :
    tP c i π σ H fun v H1 => ∀ p, H1 p = none → ∃ ds, Dp c.K (upd H1 p (.lst [])) v (.list ds) ∧ SeqAt.shaped (.list ds) = true ∧ Q (.bl (ds.isEmpty != neg)) (upd H1 p (.lst [])) := by
  obtain ⟨I, ρ, fp, G, o⟩ := h
  unfold cNil at o
  cases e1 : getP ρ i π with
  | none => rw [e1] at o; exact o.elim
  | some r =>
    rw [e1, Option.bind_some] at o
    split at o
    · rename_i xs e2
      split at o
      · rename_i hs
        obtain ⟨v, gp, s⟩ := sub_of ok.sch G.rep e1 (by rintro rfl; cases e2)
        refine ⟨I, ρ, fp, r, v, gp, G, s, fun p hp => ⟨xs, ?_, hs, ?_⟩⟩
        · exact dp_mono (same_new hp) _ _ ((vw_of s.rep e2).dp G.ih rfl)
        · have st := stp_new (o := .lst []) G.ih hp
          have G2 := G.new st
          refine o (.bl _) I _ fp [] G2 (.d (.bl _)) (by simpa using G2.nd) ?_
          exact ((Stp.refl (fp := fp) G.ih).new st).less fun a ha => by simpa using Or.inl (by simpa using ha)
      · exact o.elim
    · exact o.elim
theorem se_nil {e : Expr} {i : Nat} {π : List (Sx × Nat)} {p1 pos : Pos} (ok : CtxOk X c) (hu : X.A.units + 64 < cLine) (h : SP X c e i π) (hm : behindInMarks .Eq (.List [] p1) = false) : SE X c E (.Compare e [.Eq] [.List [] p1] pos) (cNil false i π) := by
  refine pe_imp (pe_cmpR (op_eqD hu) h (pe_lst pa_nil) hm) fun σ H Q hh => ?_
  obtain ⟨I, ρ, fp, r, v, gp, G, s, k⟩ := nil_run ok hh
  refine ⟨I, ρ, fp, r, v, gp, G, s, Nat.zero_le _, fun p hp => ?_⟩
  obtain ⟨ds, h1, h2, h3⟩ := k p hp
  refine ⟨_, _, by rw [ok.k]; exact h1, .lst (SqL.of upd_same) .nil, h2, by decide, ?_⟩
  rw [eqv_nil]
  simpa using h3
theorem se_notNil {e : Expr} {i : Nat} {π : List (Sx × Nat)} {p1 pos : Pos} (ok : CtxOk X c) (hu : X.A.units + 64 < cLine) (h : SP X c e i π) (hm : behindInMarks .NotEq (.List [] p1) = false) : SE X c E (.Compare e [.NotEq] [.List [] p1] pos) (cNil true i π) := by
  refine pe_imp (pe_cmpR (op_neD hu) h (pe_lst pa_nil) hm) fun σ H Q hh => ?_
  obtain ⟨I, ρ, fp, r, v, gp, G, s, k⟩ := nil_run ok hh
  refine ⟨I, ρ, fp, r, v, gp, G, s, Nat.zero_le _, fun p hp => ?_⟩
  obtain ⟨ds, h1, h2, h3⟩ := k p hp
  refine ⟨_, _, by rw [ok.k]; exact h1, .lst (SqL.of upd_same) .nil, h2, by decide, ?_⟩
  rw [eqv_nil]
  simpa using h3
/-- as tests -/
theorem st_nil {e : Expr} {i : Nat} {π : List (Sx × Nat)} {p1 pos : Pos} (ok : CtxOk X c) (hu : X.A.units + 64 < cLine) (h : SP X c e i π) (hm : behindInMarks .Eq (.List [] p1) = false) : ST X c E (.Compare e [.Eq] [.List [] p1] pos) (cTb (cNil false i π)) := by
  refine pt_imp (pt_cmpR (op_eqD hu) h (pe_lst pa_nil) hm) fun σ H Q hh => ?_
  obtain ⟨I, ρ, fp, r, v, gp, G, s, k⟩ := nil_run ok (tb_te hh)
  refine ⟨I, ρ, fp, r, v, gp, G, s, Nat.zero_le _, fun p hp => ?_⟩
  obtain ⟨ds, h1, h2, b, e, h3⟩ := k p hp
  refine ⟨_, _, by rw [ok.k]; exact h1, .lst (SqL.of upd_same) .nil, h2, by decide, b, ?_, h3⟩
  rw [eqv_nil]
  simpa using e
theorem st_notNil {e : Expr} {i : Nat} {π : List (Sx × Nat)} {p1 pos : Pos} (ok : CtxOk X c) (hu : X.A.units + 64 < cLine) (h : SP X c e i π) (hm : behindInMarks .NotEq (.List [] p1) = false) : ST X c E (.Compare e [.NotEq] [.List [] p1] pos) (cTb (cNil true i π)) := by
  refine pt_imp (pt_cmpR (op_neD hu) h (pe_lst pa_nil) hm) fun σ H Q hh => ?_
  obtain ⟨I, ρ, fp, r, v, gp, G, s, k⟩ := nil_run ok (tb_te hh)
  refine ⟨I, ρ, fp, r, v, gp, G, s, Nat.zero_le _, fun p hp => ?_⟩
  obtain ⟨ds, h1, h2, b, e, h3⟩ := k p hp
  refine ⟨_, _, by rw [ok.k]; exact h1, .lst (SqL.of upd_same) .nil, h2, by decide, b, ?_, h3⟩
  rw [eqv_nil]
  simpa using e
end
end TP
set_option linter.all false
set_option maxRecDepth 100000
set_option maxHeartbeats 2000000
/-! TPq: isinstance. -/
namespace TP
open PySem PySem.Spec PyProof.Rows L2
variable [TabsOf]
def tyName : PyData → String
  | .none => "NoneType"
  | .bool _ => "bool"
  | .int _ => "int"
  | .str _ => "str"
  | .list _ => "list"
  | .tuple _ => "tuple"
  | .dict _ => "dict"
/-- the classes asked for: 0 tuple, 1 list, 2 str, 3 bool, 4 int -/
def isTyB (x : PyData) (n : Nat) : Bool := match n, x with
  | 0, .tuple _ => true
  | 1, .list _ => true
  | 2, .str _ => true
  | 3, .bool _ => true
  | 4, .int _ => true
  | 4, .bool _ => true
  | _, _ => false
def tyOf : Nat → String
  | 0 => "tuple"
  | 1 => "list"
  | 2 => "str"
  | 3 => "bool"
  | _ => "int"
theorem kit_is {x : PyData} (nd : notDict x = true) {n : Nat} (hn : n ≤ 4) : kitB (tyName x) (tyOf n) = some (isTyB x n) := by
  have h : n = 0 ∨ n = 1 ∨ n = 2 ∨ n = 3 ∨ n = 4 := by omega
  rcases h with rfl | rfl | rfl | rfl | rfl <;> cases x <;> first | (cases nd; done) | (simp only [tyName, tyOf, isTyB]; decide +kernel)
section
variable {c : Ctx} {X : Cx} {E : XK}
theorem tyX_of {I H : Hp} {v : V} {x : PyData} (ih : Same I H) (h : Vw c I H v x) (nd : notDict x = true) : TyX c.K H v (.type (tyName x)) := by
  have d := h.dp ih nd
  cases x with
  | none => cases d; exact .base .non
  | bool b => cases d; exact .base (.bl _)
  | int i => cases d; exact .base (.int _)
  | str s => cases d; exact .base (.str _)
  | list xs =>
    cases d with
    | lst hs ha =>
      rcases hs with (h | ⟨o, h⟩) | ⟨o, its, n, h1, h2, _⟩
      · exact .base (.lst h)
      · exact .base (.frz h)
      · exact .kList h1 h2
  | tuple xs =>
    cases d with
    | tup hs ha =>
      rcases hs with (h | ⟨o, h⟩) | ⟨o, its, n, h1, h2, _⟩
      · exact .base (.tup h)
      · exact .fTuple h
      · exact .kTuple h1 h2
  | dict _ => cases nd
def isiK (n : Nat) : List PyData → Option R
  | [x] => if notDict x = true ∧ n ≤ 4 then some (.d (.bool (isTyB x n))) else none
  | _ => none
def isi2K (n m : Nat) : List PyData → Option R
  | [x] => if notDict x = true ∧ n ≤ 4 ∧ m ≤ 4 then some (.d (.bool (isTyB x n || isTyB x m))) else none
  | _ => none
def rIsi1 (K : PySem.W.Frag) (n : Nat) : List V → Hp → VK → Prop := fun vs H Q => match vs with
  | [x] => rIsi K [x, .ty (tyOf n)] H Q
  | _ => False
def rIsi2 (K : PySem.W.Frag) (n m : Nat) : List V → Hp → VK → Prop := fun vs H Q => match vs with
  | [x] => 2 ≤ sizeLine ∧ ∀ p, H p = none → rIsiT K [x, .ref p] (upd H p (.tup [.ty (tyOf n), .ty (tyOf m)])) Q
  | _ => False
theorem n_isi {n : Nat} : NOk c (isiK n) (rIsi1 c.K n) := by
  intro I H vs ds res Q ih hv hk q
  unfold isiK at hk
  split at hk
  · split at hk
    · rename_i hn
      cases hk
      obtain ⟨v, rfl, h1⟩ := vw1 hv
      exact ⟨v, .ty (tyOf n), _, _, _, rfl, .ty _, tyX_of ih h1 hn.1, kit_ty (kit_is hn.1 hn.2), ans_d ih (.bl _) q⟩
    · cases hk
  · cases hk
theorem n_isi2 {n m : Nat} : NOk c (isi2K n m) (rIsi2 c.K n m) := by
  intro I H vs ds res Q ih hv hk q
  unfold isi2K at hk
  split at hk
  · split at hk
    · rename_i x hn
      cases hk
      obtain ⟨v, rfl, h1⟩ := vw1 hv
      refine ⟨by decide, fun p hp => ?_⟩
      have st := stp_newD (o := HO.tup [V.ty (tyOf n), V.ty (tyOf m)]) ih hp
      have st0 := stp_new (o := HO.tup [V.ty (tyOf n), V.ty (tyOf m)]) ih hp
      have h2 : Dp c.K (upd H p (.tup [V.ty (tyOf n), V.ty (tyOf m)])) v x := dp_mono (same_new hp) _ _ (h1.dp ih hn.1)
      have t2 : TyX c.K (upd H p (.tup [V.ty (tyOf n), V.ty (tyOf m)])) v (.type (tyName x)) := tyX_of (c := c) (Same.refl _) (.d h2) hn.1
      refine ⟨v, p, [.ty (tyOf n), .ty (tyOf m)], _, [.type (tyOf n), .type (tyOf m)], (isTyB x n || isTyB x m), rfl, upd_same, .cons (.ty _) (.cons (.ty _) .nil), t2, ?_, ?_⟩
      · exact kitAny_cons (r := isTyB x n || isTyB x m) (kit_ty (kit_is hn.1 hn.2.1)) (fun e => by rw [e]; exact kitAny_cons (r := isTyB x m) (kit_ty (kit_is hn.1 hn.2.2)) (fun e2 => by rw [e2]; exact kitAny_nil) (fun e2 => e2)) (fun e => by rw [e]; rfl)
      · exact q (.bl _) (upd I p (.tup [V.ty (tyOf n), V.ty (tyOf m)])) _ [] st (by simp) (.d (.bl _))
    · cases hk
  · cases hk
theorem se_isi {a : Expr} {oa : Op} {T : Str} (n : Nat) {p p2 pos : Pos} (ok : CtxOk X c) (hg : Gl X "isinstance") (hm : X.mg "isinstance" = none) (sa : SO X c E a oa) (gT : Gl X T) (mT : X.mg T = none) (bT : bootBuiltins T = some (.type (tyOf n)))
    (hT : T ≠ "__name__" := by decide) (hTd : (T == ("__debug__" : Str)) = false := by decide)
    (he : starEach [a, .Name T p2] X.env = (false, eval a X.env) :: starEach [.Name T p2] X.env := by rfl) (he2 : starEach [.Name T p2] X.env = (false, eval (.Name T p2) X.env) :: starEach [] X.env := by rfl) (hpl : (backTo pos (starEach [.Name T p2] X.env)).any (·.1) = false := by rfl) :
    SE X c E (.Call (.Name "isinstance" p) [a, .Name T p2] [] pos) (cN (isiK n) [oa]) := by
  obtain ⟨ta, pa, ra⟩ := sa
  have pt : PE X (.Name T p2) (tC (.ty (tyOf n))) := pe_bltn gT mT bT rfl hT hTd
  exact se_n (rd := rIsi1 c.K n) ok (pe_callB call_isi hg hm PyProof.Rows.boot_isinstance (pa_cons pa (pa_cons pt pa_nil he2) he) (by decide) (by decide) he hpl) n_isi (.cons ra .nil) fun σ H Q h => by
    rw [ok.k]
    exact h
theorem se_isi2 {a : Expr} {oa : Op} {T U : Str} (n m : Nat) {k : Nat} {p p2 p3 p4 pos : Pos} (ok : CtxOk X c) (hg : Gl X "isinstance") (hm : X.mg "isinstance" = none) (sa : SO X c E a oa) (gT : Gl X T) (mT : X.mg T = none) (bT : bootBuiltins T = some (.type (tyOf n))) (gU : Gl X U) (mU : X.mg U = none) (bU : bootBuiltins U = some (.type (tyOf m)))
    (hT : T ≠ "__name__" := by decide) (hTd : (T == ("__debug__" : Str)) = false := by decide) (hU : U ≠ "__name__" := by decide) (hUd : (U == ("__debug__" : Str)) = false := by decide)
    (he : starEach [a, .Tuple [.Name T p2, .Name U p3] k p4] X.env = (false, eval a X.env) :: starEach [.Tuple [.Name T p2, .Name U p3] k p4] X.env := by rfl)
    (he2 : starEach [.Tuple [.Name T p2, .Name U p3] k p4] X.env = (false, eval (.Tuple [.Name T p2, .Name U p3] k p4) X.env) :: starEach [] X.env := by rfl)
    (he3 : starEach [.Name T p2, .Name U p3] X.env = (false, eval (.Name T p2) X.env) :: starEach [.Name U p3] X.env := by rfl) (he4 : starEach [.Name U p3] X.env = (false, eval (.Name U p3) X.env) :: starEach [] X.env := by rfl)
    (hpl : (backTo pos (starEach [.Tuple [.Name T p2, .Name U p3] k p4] X.env)).any (·.1) = false := by rfl) :
    SE X c E (.Call (.Name "isinstance" p) [a, .Tuple [.Name T p2, .Name U p3] k p4] [] pos) (cN (isi2K n m) [oa]) := by
  obtain ⟨ta, pa, ra⟩ := sa
  have pt : PE X (.Name T p2) (tC (.ty (tyOf n))) := pe_bltn gT mT bT rfl hT hTd
  have pu : PE X (.Name U p3) (tC (.ty (tyOf m))) := pe_bltn gU mU bU rfl hU hUd
  exact se_n (rd := rIsi2 c.K n m) ok (pe_callB call_isiT hg hm PyProof.Rows.boot_isinstance (pa_cons pa (pa_cons (pe_tup (pa_cons pt (pa_cons pu pa_nil he4) he3)) pa_nil he2) he) (by decide) (by decide) he hpl) n_isi2 (.cons ra .nil) fun σ H Q h => by
    rw [ok.k]
    exact h
end
end TP
set_option linter.all false
set_option maxRecDepth 100000
set_option maxHeartbeats 2000000
/-! TPr: temporaries frozen; calls that only look; sorted. -/
namespace TP
open PySem PySem.Spec PyProof.Rows L2
variable [TabsOf]
section
variable {c : Ctx} {X : Cx} {E : XK}
/-- a temporary becomes data -/
def cFz (f : EF) : EF := fun ρ => (f ρ).bind fun r ρ1 => match toD r with
  | some x => .ok (.d x) ρ1
  | none => .no
theorem se_fz {e : Expr} {f : EF} (h : SE X c E e f) : SE X c E e (cFz f) := by
  refine pe_imp h fun σ H Q ⟨I, ρ, fp, G, o⟩ => ⟨I, ρ, fp, G, OutG.imp (OutG.bind o) fun r ρ1 o1 v I1 H1 fp1 fr G1 r1 nd st => ?_⟩
  cases e1 : toD r with
  | none => rw [e1] at o1; exact o1.elim
  | some x =>
    rw [e1] at o1
    have dp := r1.frz G1.ih e1
    have G2 := G1.frz r1 nd
    exact o1 v _ _ fp1 [] G2 (.d dp) (by simpa using G2.nd) (by simpa using st.frz)
/-! ### a call that only looks -/
def scalar : PyData → Bool
  | .none => true
  | .bool _ => true
  | .int _ => true
  | .str _ => true
  | _ => false
theorem scalar_dp {K : PySem.W.Frag} {I J : Hp} {v : V} {x : PyData} (h : Dp K I v x) (s : scalar x = true) : Dp K J v x := by
  cases h with
  | non => exact .non
  | bl b => exact .bl b
  | int i => exact .int i
  | str z => exact .str z
  | lst _ _ => cases s
  | tup _ _ => cases s
def lookD (ρ : List R) : List Hd → Option (List PyData)
  | [] => some []
  | .t r :: hs => (toD r).bind fun x => (lookD ρ hs).map (x :: ·)
  | .s i :: hs => ((ρ[i]?).bind toD).bind fun x => (lookD ρ hs).map (x :: ·)
  | .p _ _ :: _ => none
def cPeek (g : GF) (os : List Op) : EF := fun ρ => (cOps os ρ).bind fun hs ρ1 => match lookD ρ1 hs with
  | some ds => (match g (ds.map .d) with
    | .ok (.d x) _ => if scalar x = true then .ok (.d x) ρ1 else .no
    | _ => .no)
  | none => .no
theorem look_ok {I H : Hp} {σ : L2.St} {ρ : List R} {fp fr : List Addr} (G : Good c I H σ ρ fp) (hf : ∀ a, a ∈ fp → a ∈ fr) : ∀ {hs : List Hd} {vs : List V} {ft : List Addr} {ds : List PyData}, HdR c I H σ ρ fp hs vs ft → (∀ a, a ∈ ft → a ∈ fr) → lookD ρ hs = some ds → DpAll c.K (frz I H fr) vs ds
  | [], _, _, _, .nil, _, e => by cases e; exact .nil
  | .t r :: hs, _, _, ds, h, m, e => by
    cases h with
    | @t _ v gp _ vs ft h1 h2 =>
      simp only [lookD] at e
      cases e1 : toD r with
      | none => rw [e1] at e; cases e
      | some x =>
        rw [e1, Option.bind_some] at e
        cases e2 : lookD ρ hs with
        | none => rw [e2] at e; cases e
        | some xs =>
          rw [e2] at e; cases e
          exact .cons (h1.toDp (frz_ii G.ih) (fun a vs q => frz_tup q) (fun a ha => frz_at (m a (List.mem_append_left _ ha))) e1) (look_ok G hf h2 (fun a ha => m a (List.mem_append_right _ ha)) e2)
  | .s i :: hs, _, _, ds, h, m, e => by
    cases h with
    | @s _ v _ vs ft hv h2 =>
      simp only [lookD] at e
      cases e0 : ρ[i]? with
      | none => rw [e0] at e; cases e
      | some r =>
        rw [e0, Option.bind_some] at e
        cases e1 : toD r with
        | none => rw [e1] at e; cases e
        | some x =>
          rw [e1, Option.bind_some] at e
          cases e2 : lookD ρ hs with
          | none => rw [e2] at e; cases e
          | some xs =>
            rw [e2] at e; cases e
            obtain ⟨pre, gp, post, e3, h3, _⟩ := G.rep.at e0
            rcases h3 with rfl | ⟨v', h4, h5⟩
            · cases e1
            · rw [hv] at h4; cases h4
              exact .cons (h5.toDp (frz_ii G.ih) (fun a vs q => frz_tup q) (fun a ha => frz_at (hf a (by rw [e3]; simp [ha]))) e1) (look_ok G hf h2 m e2)
  | .p _ _ :: _, _, _, _, _, _, e => by cases e
theorem se_peek {e : Expr} {es : List Expr} {os : List Op} {x : Str} {p pos : Pos} {g : GF} {CX : CXT} {k : Nat} {f : Addr} {fd : FuncData} {ps : List Str} (ok : CtxOk X c) (F : FnOk X.prog X.w X.K X.mg X.base CX k f fd ps (spG c g)) (hr : Room k X.A) (hg : Gl X x) (hm : X.mg x = some (.ref f)) (hk : PySem.W.keepIn X.K (.ref f) = true) (hb : Binds X.K fd ps []) (hx : Passes CX X E)
    (h : SOs X c E (e :: es) os) (hdb : (x == ("__debug__" : Str)) = false := by decide) (hpl : (backTo pos (starEach es X.env)).any (·.1) = false := by rfl) : SE X c E (.Call (.Name x p) (e :: es) [] pos) (cPeek g os) := by
  cases h with
  | @cons _ o _ os h1 h2 h3 =>
  obtain ⟨ts, pa, tr⟩ := (SOs.cons h1 h2 h3).pa
  refine pe_imp (pe_call F hr hg hm hk hb .nil hx pa hdb h2 hpl) fun σ H Q ⟨I, ρ, fp, G, out⟩ => ?_
  show tL ts σ H fun vs H1 => spG c g (vs ++ []) H1 Q E
  refine ops_run ok.sch tr G out.bind fun hs ρ1 p vs I1 H1 fp1 ft G1 hr nd st => ?_
  rw [List.append_nil]
  cases e1 : lookD ρ1 hs with
  | none => simp only [e1] at p; exact p.elim
  | some ds =>
    simp only [e1] at p
    have dp := look_ok (fr := fp1 ++ ft) G1 (fun a ha => List.mem_append_left _ ha) hr (fun a ha => List.mem_append_right _ ha) e1
    have tb := G1.tb
    refine ⟨frz I1 H1 (fp1 ++ ft), ds.map .d, [], frz_ih G1.ih, tb, repRs_d dp, by simp, ?_⟩
    cases e2 : g (ds.map .d) with
    | no => rw [e2] at p; exact p.elim
    | ex _ _ => rw [e2] at p; exact p.elim
    | ok r rs' =>
      rw [e2] at p
      cases r with
      | d x =>
        simp only at p
        split at p
        · rename_i hs
          intro v I2 H2 fp' fr ih2 rr rv nd2 st2
          have hown : ∀ a, a ∈ fp1 ++ ft → OwnA I1 H1 a := fun a ha => (List.mem_append.mp ha).elim (G1.rep.own a) (hr.own a)
          classical
          let J : Hp := fun a => if a ∈ fp1 ++ ft then none else I2 a
          have iJ : Same I1 J := ⟨fun a o e nt => by
            have na : a ∉ fp1 ++ ft := fun z => by
              have := (hown a z).1
              rw [e] at this; cases this
            show (if a ∈ fp1 ++ ft then none else I2 a) = some o
            rw [if_neg na]
            exact st2.ii.o _ _ ((frz_ii G1.ih).o _ _ e nt) nt, fun a ps e => by
            have na : a ∉ fp1 ++ ft := fun z => by
              have := (hown a z).1
              rw [e] at this; cases this
            show ∃ qs, (if a ∈ fp1 ++ ft then none else I2 a) = some (.tbl qs)
            rw [if_neg na]
            obtain ⟨qs, z⟩ := (frz_ii G1.ih).t a ps e
            exact st2.ii.t a qs z⟩
          have jH : Same J H2 := ⟨fun a o e nt => by
            have e' : (if a ∈ fp1 ++ ft then none else I2 a) = some o := e
            split at e'
            · cases e'
            · exact ih2.o _ _ e' nt, fun a ps e => by
            have e' : (if a ∈ fp1 ++ ft then none else I2 a) = some (.tbl ps) := e
            split at e'
            · cases e'
            · exact ih2.t _ _ e'⟩
          have kp : Kp fp1 I1 H1 J H2 := ⟨iJ, fun a ha => by
            obtain ⟨q1, o, q2, q3, q4⟩ := hown a (List.mem_append_left _ ha)
            refine ⟨(ih2.o _ _ (st2.ii.o _ _ ((frz_at (List.mem_append_left _ ha)).trans q2) q4) q4).trans q2.symm, ?_⟩
            show (if a ∈ fp1 ++ ft then none else I2 a) = none
            rw [if_pos (List.mem_append_left _ ha)], st2.tp⟩
          have stJ : Stp (fp1 ++ ft) I1 H1 fp1 J H2 := ⟨iJ, jH, fun a o e t n => st2.kp a o e t (by simp), st2.tp, fun a ha => .inl (List.mem_append_left _ ha), fun a h1 h2 => by
            have e' : (if a ∈ fp1 ++ ft then none else I2 a) ≠ none := h2
            split at e'
            · exact absurd rfl e'
            · rename_i na
              by_cases hz : frz I1 H1 (fp1 ++ ft) a = none
              · rcases st2.fz a hz e' with z | z | z
                · cases z
                · exact .inr (.inl z)
                · exact .inr (.inr z)
              · unfold frz at hz
                split at hz
                · rename_i q
                  exact q.imp id fun z => .inr z
                · exact absurd h1 hz, st2.tl, st2.tb⟩
          cases rv with
          | d rv => exact p v J H2 fp1 [] ⟨jH, G1.rep.keep kp, G1.nd, G1.par, st2.tb G1.tb⟩ (.d (scalar_dp rv hs)) (by simpa using G1.nd) (by simpa using st.trans stJ)
        · exact p.elim
      | _ => exact p.elim
/-! ### sorted -/
open Classical in
noncomputable def sortedK : List PyData → Option R
  | [.list xs] => if PySem.W.AllAlike xs ∧ PySem.W.Sortable xs ∧ xs.length ≤ 100000 ∧ ∀ d ∈ xs, d.depth ≤ 30 then some (.ol (xs.mergeSort (PySem.W.dataLe false id))) else none
  | _ => none
def rSortedD (K : PySem.W.Frag) : List V → Hp → VK → Prop := fun vs H Q => ∃ (a : Addr) (us : List V) (ds : List PyData), vs = [.ref a] ∧ SqL K H a us ∧ DpAll K H us ds ∧ PySem.W.AllAlike ds ∧ PySem.W.Sortable ds ∧ ds.length ≤ sizeLine ∧ (∀ d ∈ ds, d.depth ≤ 30) ∧
  ∀ p, H p = none → Q (.ref p) (upd H p (.lst (((ds.zip us).mergeSort (PySem.W.dataLe false Prod.fst)).map Prod.snd)))
theorem zip_fst {α β : Type} : ∀ {xs : List α} {ys : List β}, ys.length = xs.length → (xs.zip ys).map Prod.fst = xs
  | [], _, _ => rfl
  | x :: xs, y :: ys, h => by
    show x :: (xs.zip ys).map Prod.fst = _
    rw [zip_fst (by simpa using h)]
theorem each_reads {X : Cx} {pins : List (Addr × Obj)} {σ : L2.St} {H : Hp} {s : Shared} (I : Inv X pins σ H s) : ∀ {ds : List PyData} {vs : List V} {us : List Value}, DpAll X.K H vs ds → Vals vs us → PySem.W.EachIs (fun v (b : PyData × V) => ∃ as, Reads s.heap v b.1 as) us (ds.zip vs)
  | [], _, _, .nil, .nil => .nil
  | _ :: _, _, _, .cons h1 h2, .cons r1 r2 => .cons (Dp.reads I _ _ _ h1 r1) (each_reads I h2 r2)
theorem each_rel : ∀ {ds : List PyData} {vs : List V} {us : List Value}, vs.length = ds.length → Vals vs us → PySem.W.EachIs (fun v (b : PyData × V) => RelV b.2 v) us (ds.zip vs)
  | [], [], _, _, .nil => .nil
  | _ :: _, _ :: _, _, h, .cons r1 r2 => .cons r1 (each_rel (by simpa using h) r2)
theorem vals_each : ∀ {us : List Value} {bs : List (PyData × V)}, PySem.W.EachIs (fun v (b : PyData × V) => RelV b.2 v) us bs → Vals (bs.map Prod.snd) us
  | _, _, .nil => .nil
  | _, _, .cons h1 h2 => .cons h1 (vals_each h2)
theorem call_sortedU (hu : X.A.units + 65 < cLine) : CallR X (.builtin "sorted") (rSortedD X.K) := by
  intro pins s σ H vs us Q I r h
  obtain ⟨a, ws, ds, rfl, hs, hd, hal, hso, hlen, hdep, q⟩ := h
  obtain ⟨its, rv, hl, _⟩ := I.list hs
  rw [Vals.ref1 r]
  have hll := dpall_len hd
  have hzl : (ds.zip ws).length = ds.length := by rw [List.length_zip, hll, Nat.min_self]
  have ef := zip_fst hll
  refine PySem.W.sorted_data (β := PyData × V) (enc := Prod.fst) (vs := its) (bs := ds.zip ws) (R := fun v b => RelV b.2 v) hl.isList (each_rel hll rv) (each_reads I hd rv) (by rw [ef]; exact hal) (by rw [ef]; exact hso) (by rw [hzl]; exact hlen) (fun b hb => ?_) fun out ho eo => ?_
  · have : b.1 ∈ ds := by
      rw [← ef]; exact List.mem_map.mpr ⟨b, hb, rfl⟩
    have := hdep _ this
    show X.A.units + 2 + b.1.depth < cLine
    omega
  · obtain ⟨ep, he'⟩ := PyProof.Rows.sortedAll_at s.heap its out.toArray
    have vo := vals_each eo
    have hlen2 : (((ds.zip ws).mergeSort (PySem.W.dataLe false Prod.fst)).map Prod.snd).length ≤ sizeLine := by
      rw [List.length_map, List.length_mergeSort, hzl]; exact hlen
    exact ⟨.ref _, _, I.laid (t' := s.toks) (fun _ _ => PyProof.Rows.sortedAll_old) (Nat.le_succ _) (show ObjOk X.prog X.w _ _ _ (.lst _) from ⟨hlen2, out, ep, vo, he'⟩), rfl, q _ (I.hok.fresh (Nat.le_succ _))⟩
theorem dpall_zip {K : PySem.W.Frag} {I : Hp} : ∀ {ds : List PyData} {vs : List V}, DpAll K I vs ds → ∀ b, b ∈ ds.zip vs → Dp K I b.2 b.1
  | [], _, .nil, b, h => by cases h
  | d :: ds, v :: vs, .cons h1 h2, b, h => by
    rcases List.mem_cons.mp (show b ∈ (d, v) :: ds.zip vs from h) with rfl | h
    · exact h1
    · exact dpall_zip h2 b h
theorem dpall_pairs {K : PySem.W.Frag} {I : Hp} : ∀ {bs : List (PyData × V)}, (∀ b, b ∈ bs → Dp K I b.2 b.1) → DpAll K I (bs.map Prod.snd) (bs.map Prod.fst)
  | [], _ => .nil
  | b :: bs, h => .cons (h b List.mem_cons_self) (dpall_pairs fun b' hb => h b' (List.mem_cons_of_mem _ hb))
theorem n_sorted : NOk c sortedK (rSortedD c.K) := by
  intro I H vs ds res Q ih hv hk q
  unfold sortedK at hk
  split at hk
  · split at hk
    · rename_i ds hc
      cases hk
      obtain ⟨v, rfl, h1⟩ := vw1 hv
      obtain ⟨p, us, rfl, s1, d1⟩ := h1.lst ih
      refine ⟨p, us, ds, rfl, s1, dpall_mono ih _ _ d1, hc.1, hc.2.1, le_line' hc.2.2.1, hc.2.2.2, fun p' hp => ans_ol ih hp ?_ q⟩
      have e1 : ds.mergeSort (PySem.W.dataLe false id) = ((ds.zip us).mergeSort (PySem.W.dataLe false Prod.fst)).map Prod.fst := by
        rw [List.map_mergeSort (r := PySem.W.dataLe false Prod.fst) (s := PySem.W.dataLe false id) (f := Prod.fst) (l := ds.zip us) (fun a _ b _ => rfl), zip_fst (dpall_len d1)]
      rw [e1]
      exact dpall_pairs fun b hb => dpall_zip d1 b ((List.mem_mergeSort).mp hb)
    · cases hk
  · cases hk
theorem boot_sortedT : bootBuiltins "sorted" = some (.builtin "sorted") := by decide +kernel
end
end TP
namespace TP
open PySem L2
theorem relI (i : Int) (t : Tok) : RelV (.int i) (.int i t) := ⟨t, rfl⟩
end TP
namespace TP
open PySem L2
theorem cx_end {P : Program} {w : World} {o : List Env} {H : Hp} {s : Shared} {e : Value} {s' : Shared} (h : L2.CX P w o H s (fun _ _ _ => False) e s') : False := by
  obtain ⟨_, _, _, _, _, _, _, _, _, _, _, _, z⟩ := h
  exact z
end TP
set_option linter.all false
set_option maxRecDepth 100000
set_option maxHeartbeats 4000000
/-! TPs: sorted(set(xs)), xs a list of tuples of ints. -/
namespace TP
open PySem PySem.Spec PyProof.Rows L2
variable [TabsOf]
/-! ### the plain side -/
def rowD (r : List Int) : PyData := .tuple (r.map .int)
def rowsOf : List PyData → Option (List (List Int))
  | [] => some []
  | .tuple xs :: ds => (intsOf xs).bind fun r => (rowsOf ds).map (r :: ·)
  | _ => none
theorem rowsOf_eq : ∀ {ds : List PyData} {rs : List (List Int)}, rowsOf ds = some rs → ds = rs.map rowD
  | [], _, h => by cases h; rfl
  | .tuple xs :: ds, rs, h => by
    unfold rowsOf at h
    cases e : intsOf xs with
    | none => rw [e] at h; cases h
    | some r =>
      rw [e, Option.bind_some] at h
      cases e2 : rowsOf ds with
      | none => rw [e2] at h; cases h
      | some q =>
        rw [e2] at h; cases h
        rw [rowsOf_eq e2, intsOf_eq e]; rfl
  | .none :: _, _, h => by cases h
  | .bool _ :: _, _, h => by cases h
  | .int _ :: _, _, h => by cases h
  | .str _ :: _, _, h => by cases h
  | .list _ :: _, _, h => by cases h
  | .dict _ :: _, _, h => by cases h
theorem rowsOf_map (rs : List (List Int)) : rowsOf (rs.map rowD) = some rs := by
  induction rs with
  | nil => rfl
  | cons r rs ih =>
    show (intsOf (r.map .int)).bind (fun r => (rowsOf (rs.map rowD)).map (r :: ·)) = _
    rw [intsOf_map, Option.bind_some, ih]; rfl
def ddup : List (List Int) → List (List Int)
  | [] => []
  | a :: l => if a ∈ l then ddup l else a :: ddup l
theorem ddup_mem {a : List Int} : ∀ {l : List (List Int)}, a ∈ ddup l ↔ a ∈ l
  | [] => Iff.rfl
  | b :: l => by
    unfold ddup
    split
    · rename_i h
      rw [ddup_mem, List.mem_cons]
      exact ⟨.inr, fun z => z.elim (fun e => by rw [e]; exact h) id⟩
    · rw [List.mem_cons, List.mem_cons, ddup_mem]
theorem ddup_nodup : ∀ l : List (List Int), (ddup l).Nodup
  | [] => List.nodup_nil
  | b :: l => by
    unfold ddup
    split
    · exact ddup_nodup l
    · rename_i h
      exact List.nodup_cons.mpr ⟨fun z => h (ddup_mem.mp z), ddup_nodup l⟩
abbrev leI (a b : List Int) : Bool := decide (a ≤ b)
def sset (l : List (List Int)) : List (List Int) := (ddup l).mergeSort leI
theorem leI_trans (a b c : List Int) (h1 : leI a b = true) (h2 : leI b c = true) : leI a c = true := by
  simp only [leI, decide_eq_true_eq] at *
  exact List.le_trans h1 h2
theorem leI_total (a b : List Int) : (leI a b || leI b a) = true := by
  simp only [leI, Bool.or_eq_true, decide_eq_true_eq]
  exact List.le_total a b
theorem sset_is {l m : List (List Int)} (nd : m.Nodup) (pw : m.Pairwise (· ≤ ·)) (h : ∀ a, a ∈ m ↔ a ∈ l) : m = sset l := by
  have p : m.Perm (sset l) := ((List.perm_ext_iff_of_nodup nd (ddup_nodup l)).mpr fun a => (h a).trans ddup_mem.symm).trans (List.mergeSort_perm _ _).symm
  have pw1 : m.Pairwise (fun a b => leI a b = true) := pw.imp fun h => decide_eq_true h
  have pw2 : (sset l).Pairwise (fun a b => leI a b = true) := List.pairwise_mergeSort leI_trans leI_total _
  exact List.Perm.eq_of_pairwise (fun a b _ _ h1 h2 => List.le_antisymm (of_decide_eq_true h1) (of_decide_eq_true h2)) pw1 pw2 p
/-! ### sorted of a set of tuples of ints, of any sign -/
theorem alike_tints (a b : List Int) : PySem.W.alike (rowD a) (rowD b) = true := by
  unfold rowD
  rw [PySem.W.alike]
  exact PySem.W.alike_ints _ _
theorem dataLe_tints {β : Type} (x : β → List Int) : PySem.W.dataLe false (fun b => rowD (x b)) = fun p q => decide (x p ≤ x q) := by
  funext p q
  show (!PySem.W.dataLt (.tuple ((x q).map .int)) (.tuple ((x p).map .int))) = _
  rw [PySem.W.dataLt_tuple]
  show (!PySem.W.rowLt ((x q).map .int) ((x p).map .int)) = _
  rw [PySem.W.dataLt_ints]
  by_cases h : x q < x p
  · have h' : ¬ x p ≤ x q := fun r => List.not_lt.mpr r h
    simp [h, h']
  · have h' : x p ≤ x q := List.not_lt.mp h
    simp [h, h']
section
variable {P : Program} {w : World} {A : Around} {E : Value → Shared → Prop} {s : Shared}
theorem each_isT {h : Heap} : ∀ {L : List (Addr × List Int)}, (∀ p ∈ L, IsT P w h p.2 p.1) → PySem.W.EachIs (fun v (p : Addr × List Int) => v = Value.ref p.1) (L.map fun q => Value.ref q.1) L
  | [], _ => .nil
  | p :: L, h => .cons rfl (each_isT fun q hq => h q (List.mem_cons_of_mem _ hq))
theorem each_readsT {h : Heap} {a : Addr} : ∀ {L : List (Addr × List Int)}, (∀ p ∈ L, TS.TupInts h (.ref p.1) p.2) → PySem.W.EachIs (fun v (p : Addr × List Int) => ∃ as, Reads h v (rowD p.2) as ∧ a ∉ as) (L.map fun q => Value.ref q.1) L
  | [], _ => .nil
  | p :: L, h => .cons (by
      obtain ⟨a', ys, e2, ⟨o', ho', hc', n', hdt'⟩, i'⟩ := h p List.mem_cons_self
      cases e2
      exact ⟨[], by
        have z := reads_tuple_ints (h := _) (T := p.1) (vr := ys.toList) (r := p.2) ⟨o', ho', hc', n', by simpa using hdt'⟩ i'
        exact z, by simp⟩) (each_readsT fun q hq => h q (List.mem_cons_of_mem _ hq))
theorem out_each : ∀ {out : List Value} {L : List (Addr × List Int)}, PySem.W.EachIs (fun v (p : Addr × List Int) => v = Value.ref p.1) out L → out = L.map fun q => Value.ref q.1
  | _, _, .nil => rfl
  | _, _, .cons h1 h2 => by rw [h1, out_each h2]; rfl
end
end TP
namespace TP
open PySem PySem.Spec PyProof.Rows L2
variable [TabsOf]
section
variable {P : Program} {w : World} {A : Around} {E : Value → Shared → Prop} {s : Shared}
theorem sorted_setTG {a : Addr} {L : List (Addr × List Int)} {es : Array (Int × Value)} {ep : Nat} {t : SetTable} {Q : Value → Shared → Prop} (R : SetTR P w s.heap a L es ep t) (hh : A.handled = none)
    (hne : ∀ p ∈ L, p.2 ≠ []) (hu : A.units + 10 < cLine)
    (hQ : ∀ s' p (out : Array Value) (c : Nat) (L' : List (Addr × List Int)), (∀ b o, s.heap.get? b = some o → s'.heap.get? b = some o) → s'.gens = s.gens → s'.os = s.os → s.heap.objs.size ≤ p →
      s'.heap.get? p = some (seqObj "list" out c) → out.toList = L'.map (fun q => Value.ref q.1) → L'.Perm L → L'.Pairwise (fun q r => q.2 ≤ r.2) → Q (.ref p) s') :
    wpAny (model P w) A (call (.builtin "sorted") [.ref a]) Q E s := by
  obtain ⟨o, ho, hex, hd⟩ := R.ob
  have hsz := R.size
  have hfew := R.few
  refine Calls.call_function_entry kind_sorted plain_sorted entry_sorted (args_sorted1 _) ?_
  unfold Builtin.«sorted»
  refine wpAny_bind (m := checkCount "sorted" 1 1 _) (wpAny_pure ?_)
  refine wpAny_bind (collect_set (A := A.in1) hh ⟨o, ho, hex.1, hd⟩ R.fits (by unfold scanBound; omega) R.tab.ris R.led fun s1 vs k1 hz g1 o1 pm => ?_)
  have hes : es.toList.map (·.2) = L.map fun q => Value.ref q.1 := by
    rw [R.rows]
    unfold L2.rowsOf
    rw [List.map_map] <;> rfl
  rw [hes] at pm
  -- the values are the addresses of rows
  have ord : ∀ vs : List Value, (∀ v ∈ vs, ∃ q ∈ L, v = Value.ref q.1) → ∃ L1 : List (Addr × List Int), vs = L1.map (fun q => Value.ref q.1) ∧ ∀ q ∈ L1, q ∈ L := by
    intro vs
    induction vs with
    | nil => intro _; exact ⟨[], rfl, fun q hq => (by cases hq)⟩
    | cons v vs ih =>
      intro hv
      obtain ⟨q, hq, e⟩ := hv v List.mem_cons_self
      obtain ⟨L1, e1, hs⟩ := ih fun u hu => hv u (List.mem_cons_of_mem _ hu)
      refine ⟨q :: L1, by rw [List.map_cons, e, e1], fun r hr => ?_⟩
      rcases List.mem_cons.mp hr with z | z
      · rw [z]; exact hq
      · exact hs r z
  have one : ∀ q ∈ L, ∀ r ∈ L, q.1 = r.1 → q = r := fun q hq r hr e => by
    have a1 := R.tup q hq
    have a2 := R.tup r hr
    rw [e] at a1
    have e2 : q.2 = r.2 := a1.inj a2
    exact Prod.ext e e2
  have perm_of : ∀ L1 : List (Addr × List Int), (∀ q ∈ L1, q ∈ L) → (L1.map (fun q => Value.ref q.1)).Perm (L.map fun q => Value.ref q.1) → L1.Perm L := by
    intro L1 hs pm1
    have nL : L.Nodup := nodup_of_map R.nd
    have nref : (L.map fun q => Value.ref q.1).Nodup := by
      refine List.pairwise_map.mpr (List.Pairwise.imp_of_mem (fun {q r} hq hr hne e => ?_) nL)
      injection e with e
      exact hne (one q hq r hr e)
    have n1 : L1.Nodup := nodup_of_map (pm1.nodup_iff.mpr nref)
    refine (List.perm_ext_iff_of_nodup n1 nL).mpr fun q => ⟨hs q, fun hq => ?_⟩
    have hm : Value.ref q.1 ∈ L1.map (fun q => Value.ref q.1) := pm1.mem_iff.mpr (List.mem_map.mpr ⟨q, hq, rfl⟩)
    obtain ⟨r, hr, e⟩ := List.mem_map.mp hm
    injection e with e
    rw [← one r (hs r hr) q hq e]
    exact hr
  obtain ⟨L1, rfl, hs1⟩ := ord vs fun v hv => by
    obtain ⟨q, hq, e⟩ := List.mem_map.mp (pm.mem_iff.mp hv)
    exact ⟨q, hq, e.symm⟩
  have p1 := perm_of L1 hs1 pm
  have hl1 : L1.length < 64 := by rw [p1.length_eq]; exact hfew
  refine wpAny_bind (wpAny_newList ?_ (by rw [List.length_map, sizeLine_eq]; omega))
  have hoL : (s1.heap.push (seqObj "list" (L1.map fun q => Value.ref q.1).toArray 0)).get? s1.heap.objs.size = some (seqObj "list" (L1.map fun q => Value.ref q.1).toArray 0) := Heap.get?_push_size _ rfl
  have tk : ∀ q ∈ L1, TS.TupInts (s1.heap.push (seqObj "list" (L1.map fun q => Value.ref q.1).toArray 0)) (.ref q.1) q.2 := fun q hq => tupInts_of (P := P) (w := w) (isT_keep (R.tup q (hs1 q hq)) fun b u e => Heap.get?_push_of_some _ (k1 b u e))
  have hal : PySem.W.AllAlike (L1.map fun p => rowD p.2) := PySem.W.AllAlike.of fun b b' => alike_tints _ _
  have hso : PySem.W.Sortable (L1.map fun p => rowD p.2) := .inl fun d hd => by
    obtain ⟨p, hp, rfl⟩ := List.mem_map.mp hd
    have := hne p (hs1 p hp)
    cases e : p.2 with
    | nil => exact absurd e this
    | cons x r => exact ⟨.int x, r.map .int, by simp only [rowD, e]; rfl⟩
  refine wpAny_bind (wpAny_holding (PySem.W.list_sort_data (s := { s1 with heap := s1.heap.push (seqObj "list" (L1.map fun q => Value.ref q.1).toArray 0) }) (β := Addr × List Int) (enc := fun p => rowD p.2) (R := fun v p => v = Value.ref p.1) (bs := L1) hoL
    (each_isT (P := P) (w := w) (h := s.heap) fun p hp => R.tup p (hs1 p hp)) (each_readsT tk) hal hso (by rw [sizeLine_eq]; omega) (fun b hb => ?_) fun out a1 a2 => ?_))
  · have e1 : (rowD b.2).depth ≤ 1 := by
      unfold rowD PyData.depth
      rw [PySem.W.depth_ints]
      omega
    have e2 : A.in1.units = A.units + 1 := rfl
    show A.in1.units + 1 + (rowD b.2).depth < cLine
    omega
  rw [dataLe_tints (fun p : Addr × List Int => p.2)] at a2
  have e2 := out_each a2
  subst e2
  generalize hL' : L1.mergeSort (fun p q => decide (p.2 ≤ q.2)) = L' at a1 a2 ⊢
  have pL' : L'.Perm L1 := by rw [← hL']; exact List.mergeSort_perm _ _
  have pw : L'.Pairwise (fun q r => q.2 ≤ r.2) := by
    rw [← hL']
    refine List.Pairwise.imp (fun h => of_decide_eq_true h) (List.pairwise_mergeSort (le := fun p q : Addr × List Int => decide (p.2 ≤ q.2)) ?_ ?_ L1)
    · intro a b c h1 h2
      exact leI_trans a.2 b.2 c.2 h1 h2
    · intro a b
      exact leI_total a.2 b.2
  obtain ⟨c, hc⟩ := sortedHeap_at (vs := L1.map fun q => Value.ref q.1) (out := (L'.map fun q => Value.ref q.1).toArray) hoL
  refine wpAny_pure ⟨_, rfl, hQ _ s1.heap.objs.size (L'.map fun q => Value.ref q.1).toArray c L' (fun b u e => ?_) g1 o1 hz hc (by simp) (pL'.trans p1) pw⟩
  have q := k1 b u e
  have hlt := Heap.lt_size q
  show (sortedHeap (s1.heap.push (seqObj "list" (L1.map fun q => Value.ref q.1).toArray 0)) s1.heap.objs.size (L1.map fun q => Value.ref q.1) (L'.map fun q => Value.ref q.1).toArray).get? b = some u
  rw [sortedHeap_old (Nat.ne_of_lt hlt) (by rw [size_push']; exact Nat.lt_succ_of_lt hlt)]
  exact Heap.get?_push_of_some _ q
end
section
variable {X : Cx}
def rSortedTG (K : PySem.W.Frag) (P : Program) (w : World) : List V → Hp → VK → Prop := fun vs H Q => ∃ (a : Addr) (L : List (Addr × List Int)), vs = [V.ref a] ∧ H a = some (SetTO P w a L) ∧ (∀ p ∈ L, SqT K H p.1 (p.2.map V.int)) ∧ (∀ p ∈ L, p.2 ≠ []) ∧
  ∀ (L' : List (Addr × List Int)) (p : Addr), L'.Perm L → (L'.map (·.2)).Nodup → L'.Pairwise (fun q r => q.2 ≤ r.2) → H p = none → Q (.ref p) (upd H p (.lst (L'.map fun q => V.ref q.1)))
theorem cr_sortedTG (hc : X.calm = true) (hu : X.A.units + 65 < cLine) : CallR X (.builtin "sorted") (rSortedTG X.K X.prog X.w) := by
  intro pins s σ H vs us Q I r h
  obtain ⟨a, L, rfl, ha, hk, hne, q⟩ := h
  have R0 : SetT0 X.prog X.w s.heap a L := (I.hok a _ ha).1
  obtain ⟨es, ep, t, R⟩ := R0.full fun p hp => I.isT (hk p hp)
  rw [Vals.ref1 r]
  refine sorted_setTG R (I.ok.hd hc) hne (by omega) fun s' p out c L' k g o hp hg hout pm pw => ?_
  have hfew : L'.length < 64 := by rw [pm.length_eq]; exact R.few
  have hlen : (L'.map fun q => V.ref q.1).length ≤ sizeLine := by rw [List.length_map, sizeLine_eq]; omega
  have hn : H p = none := I.hok.fresh hp
  have hv : Vals (L'.map fun q => V.ref q.1) out.toList := by rw [hout]; exact vals_of_refs L'
  have J : Inv X pins σ (upd H p (.lst (L'.map fun q => V.ref q.1))) { s with heap := s'.heap, gens := s'.gens, drawn := s'.drawn, toks := s'.toks } :=
    I.call (ch := []) (Un.laid k hp hn) (I.hok.laid k hp ⟨hlen, out.toList, c, hv, hg⟩) (by rw [g]; exact I.bare) (fun _ z => nomatch z)
  have e : s' = { s with heap := s'.heap, gens := s'.gens, drawn := s'.drawn, toks := s'.toks } := by
    cases s'
    cases s
    cases o
    rfl
  rw [e]
  exact ⟨.ref p, _, J, rfl, q L' p pm ((pm.map (·.2)).nodup_iff.mpr R.nd) pw hn⟩
end
end TP
namespace TP
open PySem PySem.Spec PyProof.Rows L2
variable [TabsOf]
section
variable {c : TP.Ctx} {X : Cx} {E : XK}
def rSetSort (K : PySem.W.Frag) (P : Program) (w : World) : List V → Hp → VK → Prop := fun vs H Q => rSetOfT K P w vs H fun v H1 => rSortedTG K P w [v] H1 Q
def noNil (rs : List (List Int)) : Bool := rs.all fun r => !r.isEmpty
def setSortK : List PyData → Option R
  | [.list xs] => (rowsOf xs).bind fun rs => if rs.length < 64 ∧ noNil rs = true then some (.ol ((sset rs).map rowD)) else none
  | _ => none
theorem rows_vs {K : PySem.W.Frag} {I : Hp} : ∀ {rs : List (List Int)} {vs : List V}, DpAll K I vs (rs.map rowD) → ∃ ks : List (Addr × List Int), vs = ks.map (fun p => V.ref p.1) ∧ ks.map (·.2) = rs ∧ ∀ p ∈ ks, SqT K I p.1 (p.2.map V.int)
  | [], _, .nil => ⟨[], rfl, rfl, fun _ h => by cases h⟩
  | r :: rs, _, .cons h1 h2 => by
    obtain ⟨ks, e1, e2, e3⟩ := rows_vs h2
    cases h1 with
    | @tup a us _ hs ha =>
      rw [dpall_ints ha] at hs
      exact ⟨(a, r) :: ks, by rw [e1]; rfl, by rw [List.map_cons, e2], fun p hp => by
        rcases List.mem_cons.mp hp with rfl | hp
        · exact hs
        · exact e3 p hp⟩
theorem dpall_intV {K : PySem.W.Frag} {I : Hp} : ∀ r : List Int, DpAll K I (r.map V.int) (r.map PyData.int)
  | [] => .nil
  | _ :: r => .cons (.int _) (dpall_intV r)
theorem rows_dp {K : PySem.W.Frag} {I : Hp} : ∀ {L : List (Addr × List Int)}, (∀ p ∈ L, SqT K I p.1 (p.2.map V.int)) → DpAll K I (L.map fun p => V.ref p.1) (L.map fun p => rowD p.2)
  | [], _ => .nil
  | p :: L, h => .cons (.tup (h p List.mem_cons_self) (dpall_intV _)) (rows_dp fun q hq => h q (List.mem_cons_of_mem _ hq))
theorem n_setSort {P : Program} {w : World} : NOk c setSortK (rSetSort c.K P w) := by
  intro I H vs ds res Q ih hv hk q
  unfold setSortK at hk
  split at hk
  · rename_i ds
    obtain ⟨v, rfl, h1⟩ := vw1 hv
    obtain ⟨l, us, rfl, s1, d1⟩ := h1.lst ih
    cases e : rowsOf ds with
    | none => rw [e] at hk; cases hk
    | some rs =>
      rw [e, Option.bind_some] at hk
      split at hk
      · rename_i hc
        cases hk
        rw [rowsOf_eq e] at d1
        obtain ⟨ks, rfl, e2, e3⟩ := rows_vs d1
        have hl : ks.length = rs.length := by rw [← e2, List.length_map]
        refine ⟨l, ks, rfl, s1, fun p hp => sm_t ih (e3 p hp), by omega, fun a L ha hs1 hs2 => ?_⟩
        have sN : Same H (upd H a (SetTO P w a L)) := same_new ha
        refine ⟨a, L, rfl, upd_same, fun p hp => sm_t sN (sm_t ih (e3 p (hs1 p hp))), fun p hp => ?_, fun L' p pm nd pw hp => ?_⟩
        · have hm : p.2 ∈ rs := by rw [← e2]; exact List.mem_map.mpr ⟨p, hs1 p hp, rfl⟩
          have hz := List.all_eq_true.mp hc.2 _ hm
          intro z
          rw [z] at hz
          cases hz
        · have hmem : ∀ r, r ∈ L'.map (·.2) ↔ r ∈ rs := fun r => by
            rw [← e2]
            constructor
            · intro h
              obtain ⟨p, hp, rfl⟩ := List.mem_map.mp h
              exact List.mem_map.mpr ⟨p, hs1 p (pm.mem_iff.mp hp), rfl⟩
            · intro h
              obtain ⟨p, hp, rfl⟩ := List.mem_map.mp h
              obtain ⟨p', hp', e'⟩ := List.mem_map.mp (hs2 p hp)
              exact List.mem_map.mpr ⟨p', pm.mem_iff.mpr hp', e'⟩
          have es := sset_is nd (List.pairwise_map.mpr pw) hmem
          have stA : Stp [] I H [] I (upd H a (SetTO P w a L)) := (stp_new (o := SetTO P w a L) ih ha).less (by simp)
          have ih2 := stA.ih
          have stB := stp_new (o := .lst (L'.map fun q => V.ref q.1)) ih2 hp
          have dL : DpAll c.K I (L'.map fun p => V.ref p.1) ((sset rs).map rowD) := by
            rw [← es, List.map_map]
            exact rows_dp fun p hp => e3 p (hs1 p (pm.mem_iff.mp hp))
          exact q _ I _ [p] (stA.trans stB) (by simp) (.ol upd_same (ih2.free hp) dL)
      · cases hk
  · cases hk
theorem se_setSort {a : Expr} {oa : Op} {p p2 pos pos2 : Pos} (ok : CtxOk X c) (hc : X.calm = true) (hu : X.A.units + 65 < cLine) (hgs : Gl X "sorted") (hms : X.mg "sorted" = none) (hgt : Gl X "set") (hmt : X.mg "set" = none) (sa : SO X c E a oa)
    (he : starEach [a] X.env = (false, eval a X.env) :: starEach [] X.env := by rfl) (hpl : (backTo pos2 (starEach [] X.env)).any (·.1) = false := by rfl)
    (he2 : starEach [.Call (.Name "set" p2) [a] [] pos2] X.env = (false, eval (.Call (.Name "set" p2) [a] [] pos2) X.env) :: starEach [] X.env := by rfl) (hpl2 : (backTo pos (starEach [] X.env)).any (·.1) = false := by rfl) :
    SE X c E (.Call (.Name "sorted" p) [.Call (.Name "set" p2) [a] [] pos2] [] pos) (cN setSortK [oa]) := by
  obtain ⟨ta, pa, ra⟩ := sa
  have ps := pe_callTy (p := p2) (cr_setOfT hc (by omega)) hgt hmt PyProof.Rows.boot_set (pa_cons pa pa_nil he) (by decide) (by decide) he hpl
  exact se_n (rd := rSetSort c.K X.prog X.w) ok (pe_callB (cr_sortedTG hc hu) hgs hms boot_sortedT (pa_cons ps pa_nil he2) (by decide) (by decide) he2 hpl2) n_setSort (.cons ra .nil) fun σ H Q h => by
    rw [ok.k]
    exact h
end
end TP
set_option linter.all false
set_option maxRecDepth 100000
set_option maxHeartbeats 4000000
/-! TPt: dicts keyed by tuples, as things of the layer. -/
namespace TP
open PySem PySem.Spec PyProof.Rows L2
variable [TabsOf]
section
variable {X : Cx}
theorem upd_pairs {pins : List (Addr × Obj)} {σ : L2.St} {H : Hp} {s : Shared} (I : Inv X pins σ H s) : ∀ {ps : List (Addr × NestedKey × Addr × V)}, (∀ p ∈ ps, SqT X.K H p.1 [.ref p.2.2.1, p.2.2.2]) →
    ∃ qs : List (NestedKey × Addr × Value), EntR (ps.map (·.2)) qs ∧ qs.length = ps.length ∧ ∀ (j : Nat) (k : NestedKey) (b : Addr) (v : Value), qs[j]? = some (k, b, v) → ∃ p, ps[j]? = some p ∧ PairAt s.heap p.1 (.ref b) v
  | [], _ => ⟨[], .nil, rfl, fun j k b v h => by simp at h⟩
  | p :: ps, h => by
    obtain ⟨qs, r, hl, f⟩ := upd_pairs I (ps := ps) fun q hq => h q (List.mem_cons_of_mem _ hq)
    obtain ⟨its, rv, ⟨o, ho, hc, n, hd⟩, _⟩ := I.tuple (h p List.mem_cons_self)
    obtain ⟨u1, u2, rfl, r1, r2⟩ := vals2 rv
    cases r1
    refine ⟨(p.2.1, p.2.2.1, u2) :: qs, .cons ⟨rfl, rfl, r2⟩ r, by simp [hl], fun j k b v hj => ?_⟩
    cases j with
    | zero =>
      simp at hj
      obtain ⟨rfl, rfl, rfl⟩ := hj
      exact ⟨p, rfl, .inl ⟨o, ho, hc, n, hd⟩⟩
    | succ j =>
      obtain ⟨p', e1, e2⟩ := f j k b v (by simpa using hj)
      exact ⟨p', by simpa using e1, e2⟩
theorem mt_dxupd (hc : X.calm = true) (hu : X.A.units + 64 < cLine) : MtR X "dict.update" (rDXupd X.K X.prog X.w) := by
  intro pins s σ H x xs0 v0 us Q I rx rxs h
  obtain ⟨d, l, es, ps, rfl, rfl, hd, ko, hl, hp, kp, hz, q⟩ := h
  cases rx
  obtain ⟨u1, rfl, r1⟩ := Vals.one rxs
  cases r1
  obtain ⟨z, hs, xs, r, dd⟩ := dx_of I (.inl hd) ko
  obtain ⟨its, rv, pl, hlz⟩ := I.list hl
  obtain ⟨qs, rq, hql, fq⟩ := upd_pairs I hp
  have hits : its = ps.map fun p => Value.ref p.1 := by
    have : ∀ {ps : List (Addr × NestedKey × Addr × V)} {its : List Value}, Vals (ps.map fun p => V.ref p.1) its → its = ps.map fun p => Value.ref p.1 := by
      intro ps
      induction ps with
      | nil => intro its rv; cases rv; rfl
      | cons p ps ih => intro its rv; cases rv with | cons r1 r2 => cases r1; rw [ih r2]; rfl
    exact this rv
  subst hits
  obtain ⟨od, dsd, epd, hod, hed, hdd, hdl, _⟩ := id dd
  have hcd : od.cls = .type "dict" := hed.1
  have pairs : PairItems s.heap (ps.map fun p => Value.ref p.1).toArray (fun j => (ps.map (·.1)).getD j 0) (qs.map fun q => (Value.ref q.2.1, q.2.2)) := by
    refine ⟨by simp [hql], fun j k v hj => ?_⟩
    rw [List.getElem?_map] at hj
    cases e : qs[j]? with
    | none => rw [e] at hj; cases hj
    | some w =>
      rw [e] at hj
      cases hj
      obtain ⟨p, e1, e2⟩ := fq j w.1 w.2.1 w.2.2 e
      have e3 : (ps.map (·.1)).getD j 0 = p.1 := by
        rw [List.getD_eq_getElem?_getD, List.getElem?_map, e1]; rfl
      refine ⟨?_, by show PairAt s.heap ((ps.map (·.1)).getD j 0) _ _; rw [e3]; exact e2⟩
      show (ps.map fun p => Value.ref p.1).toArray[j]? = some (.ref ((ps.map (·.1)).getD j 0))
      rw [e3, List.getElem?_toArray, List.getElem?_map, e1]; rfl
  have hdl' : d ≠ l := fun z => by
    subst z
    obtain ⟨o, n, e, c, _⟩ := pl
    rw [hod] at e; cases e
    rw [hcd] at c
    exact absurd c (by decide)
  refine call_update_pairsH (K := NestedKey) (knd := nestedKind X.prog X.w) (acc := xs) (ps := qs) (PairArg.list l _ (fun j => (ps.map (·.1)).getD j 0) (qs.map fun q => (Value.ref q.2.1, q.2.2))) (I.ok.hd hc) (nested_room hu) ⟨pl, pairs⟩ ?_ ?_ ?_ dd ?_ fun h' tk hm' hk' => ?_
  · intro hm
    rcases List.mem_cons.mp hm with z | hm
    · exact hdl' z
    · obtain ⟨j, hj, e⟩ := List.mem_map.mp hm
      have hj' : j < qs.length := by
        have := List.mem_range.mp hj
        rwa [List.length_map] at this
      obtain ⟨w, hw⟩ : ∃ w, qs[j]? = some w := ⟨_, List.getElem?_eq_getElem hj'⟩
      obtain ⟨e1, e2⟩ := pairs.2 j (.ref w.2.1) w.2.2 (by rw [List.getElem?_map, hw]; rfl)
      have e3 : PairAt s.heap ((ps.map (·.1)).getD j 0) (.ref w.2.1) w.2.2 := e2
      rw [e] at e3
      obtain ⟨o, ho, hh⟩ := e3.there
      rw [hod] at ho; cases ho
      rw [hcd] at hh
      rcases hh with hh | hh <;> exact absurd hh (by decide)
  · refine ⟨by simp, fun i key v hr => ?_⟩
    have hr' : (qs.map fun q => (Value.ref q.2.1, q.2.2))[i]? = some (key, v) := hr
    rw [List.getElem?_map] at hr'
    cases e : qs[i]? with
    | none => rw [e] at hr'; cases hr'
    | some w =>
      rw [e] at hr'
      cases hr'
      exact ⟨w.1, w.2.1, rfl, rfl⟩
  · intro h' hk x hx
    have at0 : (nestedKind X.prog X.w).is s.heap x.1 x.2.1 := by
      rcases List.mem_append.mp hx with hx | hx
      · obtain ⟨e, he, q1, q2⟩ := entR_mem r x hx
        have := key_is I (ko e he)
        rw [q1, q2] at this
        exact this
      · obtain ⟨e, he, q1, q2⟩ := entR_mem rq x hx
        have := key_is I (kp e he)
        rw [q1, q2] at this
        exact this
    refine nestedKind_stays.stays (fun b o vs n e1 e2 => hk b o (fun z => ?_) (by simp) e1) at0
    subst z
    rw [hod] at e1; cases e1
    rw [hdd] at e2; cases e2
  · rw [← r.length, List.length_map, hql]; exact hz
  · have hle := putAllX_len (ps.map (·.2)) es
    rw [List.length_map] at hle
    obtain ⟨o2, ds2, ep2, w1, w2, w3, w4, _, w5⟩ := hm'
    refine ⟨.non, _, I.write (x := d) (e := d) (t' := tk) (by rw [hd]; exact True.intro) (.inl rfl) (fun b q hb z => hk' b q hb (by simp) z) ⟨o2, w1⟩ (dx_ok ⟨by omega, hs, _, entR_all rq r, o2, ds2, ep2, w1, w2, w3, w4, w5⟩), rfl, q⟩
end
end TP
namespace TP
open PySem PySem.Spec PyProof.Rows L2
variable [TabsOf]
/-! ### keys as data -/
mutual
def nkey : PyData → Option NestedKey
  | .none => some .none
  | .int i => some (.num i)
  | .str x => some (.text x)
  | .tuple ds => (nkeys ds).map .tup
  | _ => none
def nkeys : List PyData → Option (List NestedKey)
  | [] => some []
  | d :: ds => (nkey d).bind fun k => (nkeys ds).map (k :: ·)
end
mutual
theorem nkey_data : ∀ {x : PyData} {k : NestedKey}, nkey x = some k → k.data = x
  | .none, _, h => by unfold nkey at h; cases h; rfl
  | .int i, _, h => by unfold nkey at h; cases h; rfl
  | .str x, _, h => by unfold nkey at h; cases h; rfl
  | .tuple ds, k, h => by
    unfold nkey at h
    cases e : nkeys ds with
    | none => rw [e] at h; cases h
    | some ks =>
      rw [e] at h; cases h
      show PyData.tuple (NestedKey.datas ks) = _
      rw [nkeys_data e]
  | .bool _, _, h => by unfold nkey at h; cases h
  | .list _, _, h => by unfold nkey at h; cases h
  | .dict _, _, h => by unfold nkey at h; cases h
theorem nkeys_data : ∀ {ds : List PyData} {ks : List NestedKey}, nkeys ds = some ks → NestedKey.datas ks = ds
  | [], _, h => by unfold nkeys at h; cases h; rfl
  | d :: ds, ks, h => by
    unfold nkeys at h
    cases e : nkey d with
    | none => rw [e] at h; cases h
    | some k =>
      rw [e, Option.bind_some] at h
      cases e2 : nkeys ds with
      | none => rw [e2] at h; cases h
      | some q =>
        rw [e2] at h; cases h
        show k.data :: NestedKey.datas q = _
        rw [nkey_data e, nkeys_data e2]
end
mutual
theorem nkey_of : ∀ k : NestedKey, nkey k.data = some k
  | .none => by show nkey PyData.none = _; unfold nkey; rfl
  | .num i => by show nkey (PyData.int i) = _; unfold nkey; rfl
  | .text x => by show nkey (PyData.str x) = _; unfold nkey; rfl
  | .tup ks => by
    show nkey (PyData.tuple (NestedKey.datas ks)) = _
    unfold nkey
    rw [nkeys_of ks]; rfl
theorem nkeys_of : ∀ ks : List NestedKey, nkeys (NestedKey.datas ks) = some ks
  | [] => by show nkeys [] = _; unfold nkeys; rfl
  | k :: ks => by
    show nkeys (k.data :: NestedKey.datas ks) = _
    unfold nkeys
    rw [nkey_of k, Option.bind_some, nkeys_of ks]; rfl
end
def isTup : PyData → Bool
  | .tuple _ => true
  | _ => false
/-- a tuple as a key -/
def keyOf (x : PyData) : Option NestedKey := if isTup x = true then (nkey x).bind fun k => if k.depth ≤ 8 then some k else none else none
def kvsOf : List (PyData × PyData) → Option (List (NestedKey × PyData))
  | [] => some []
  | p :: ps => (nkey p.1).bind fun k => (kvsOf ps).map ((k, p.2) :: ·)
theorem kvsOf_map : ∀ kvs : List (NestedKey × PyData), kvsOf (kvs.map fun p => (p.1.data, p.2)) = some kvs
  | [] => rfl
  | p :: kvs => by
    show (nkey p.1.data).bind (fun k => (kvsOf (kvs.map fun p => (p.1.data, p.2))).map ((k, p.2) :: ·)) = _
    rw [nkey_of, Option.bind_some, kvsOf_map kvs]; rfl
def valD (kvs : List (NestedKey × PyData)) (k : NestedKey) : Option PyData := (kvs.find? fun e => decide (e.1 = k)).map (·.2)
def putD (kvs : List (NestedKey × PyData)) (k : NestedKey) (v : PyData) : List (NestedKey × PyData) := if (valD kvs k).isSome = true then kvs.map (fun e => if e.1 = k then (e.1, v) else e) else kvs ++ [(k, v)]
def dropD (kvs : List (NestedKey × PyData)) (k : NestedKey) : List (NestedKey × PyData) := kvs.filter fun e => decide (e.1 ≠ k)
def putAllD (kvs ps : List (NestedKey × PyData)) : List (NestedKey × PyData) := ps.foldl (fun acc p => putD acc p.1 p.2) kvs
abbrev KP (K : PySem.W.Frag) (I : Hp) : Ents → List (NestedKey × PyData) → Prop := Paired fun p q => p.1 = q.1 ∧ Dp K I p.2.2 q.2
section
variable {c : TP.Ctx} {X : Cx} {E : XK} {I H : Hp} {K : PySem.W.Frag}
theorem key_at {v : V} {x : PyData} {k : NestedKey} (h : Dp K I v x) (e : keyOf x = some k) : ∃ b, v = .ref b ∧ KeyAt K I b k := by
  unfold keyOf at e
  split at e
  · rename_i ht
    cases e1 : nkey x with
    | none => rw [e1] at e; cases e
    | some k' =>
      rw [e1, Option.bind_some] at e
      split at e
      · rename_i hd
        cases e
        have ed := nkey_data e1
        cases h with
        | tup hs ha => exact ⟨_, rfl, by rw [ed]; exact .tup hs ha, hd⟩
        | _ => cases ht
      · cases e
  · cases e
theorem kp_val {es : Ents} {kvs : List (NestedKey × PyData)} (r : KP K I es kvs) (k : NestedKey) : (∃ v d, valX es k = some v ∧ valD kvs k = some d ∧ Dp K I v d) ∨ (valX es k = none ∧ valD kvs k = none) := by
  induction r with
  | nil => exact .inr ⟨rfl, rfl⟩
  | @cons p q ps qs h t ih =>
    by_cases e : p.1 = k
    · have e' : q.1 = k := by rw [← h.1]; exact e
      exact .inl ⟨p.2.2, q.2, by simp [valX, e], by simp [valD, e'], h.2⟩
    · have e' : ¬ q.1 = k := by rw [← h.1]; exact e
      rcases ih with ⟨v, d, h1, h2, h3⟩ | ⟨h1, h2⟩
      · exact .inl ⟨v, d, by simp only [valX, List.find?_cons, e, decide_false]; exact h1, by simp only [valD, List.find?_cons, e', decide_false]; exact h2, h3⟩
      · exact .inr ⟨by simp only [valX, List.find?_cons, e, decide_false]; exact h1, by simp only [valD, List.find?_cons, e', decide_false]; exact h2⟩
theorem kp_isSome {es : Ents} {kvs : List (NestedKey × PyData)} (r : KP K I es kvs) (k : NestedKey) : (valX es k).isSome = (valD kvs k).isSome := by
  rcases kp_val r k with ⟨v, d, h1, h2, _⟩ | ⟨h1, h2⟩ <;> rw [h1, h2] <;> rfl
theorem kp_app : ∀ {es es' : Ents} {kvs kvs' : List (NestedKey × PyData)}, KP K I es kvs → KP K I es' kvs' → KP K I (es ++ es') (kvs ++ kvs')
  | [], _, _, _, .nil, s => s
  | _ :: _, _, _, _, .cons r t, s => .cons r (kp_app t s)
theorem kp_put {es : Ents} {kvs : List (NestedKey × PyData)} (r : KP K I es kvs) (k : NestedKey) (b : Addr) {v : V} {d : PyData} (hd : Dp K I v d) : KP K I (putX es k b v) (putD kvs k d) := by
  have e := kp_isSome r k
  unfold putX putD
  rw [e]
  split
  · have key : ∀ {es : Ents} {kvs : List (NestedKey × PyData)}, KP K I es kvs → KP K I (es.map fun e => if e.1 = k then (e.1, e.2.1, v) else e) (kvs.map fun e => if e.1 = k then (e.1, d) else e) := by
      intro es kvs r
      induction r with
      | nil => exact .nil
      | @cons p q ps qs h t ih =>
        refine .cons ?_ ih
        show (if p.1 = k then (p.1, p.2.1, v) else p).1 = (if q.1 = k then (q.1, d) else q).1 ∧ Dp K I (if p.1 = k then (p.1, p.2.1, v) else p).2.2 (if q.1 = k then (q.1, d) else q).2
        by_cases z : p.1 = k
        · rw [if_pos z, if_pos (show q.1 = k by rw [← h.1]; exact z)]
          exact ⟨h.1, hd⟩
        · rw [if_neg z, if_neg (show ¬ q.1 = k by rw [← h.1]; exact z)]
          exact h
    exact key r
  · exact kp_app r (.cons ⟨rfl, hd⟩ .nil)
theorem kp_drop {es : Ents} {kvs : List (NestedKey × PyData)} (r : KP K I es kvs) (k : NestedKey) : KP K I (dropX es k) (dropD kvs k) := by
  induction r with
  | nil => exact .nil
  | @cons p q ps qs h t ih =>
    by_cases z : p.1 = k
    · have z' : q.1 = k := by rw [← h.1]; exact z
      have e1 : dropX (p :: ps) k = dropX ps k := by simp [dropX, z]
      have e2 : dropD (q :: qs) k = dropD qs k := by simp [dropD, z']
      rw [e1, e2]; exact ih
    · have z' : ¬ q.1 = k := by rw [← h.1]; exact z
      have e1 : dropX (p :: ps) k = p :: dropX ps k := by simp [dropX, z]
      have e2 : dropD (q :: qs) k = q :: dropD qs k := by simp [dropD, z']
      rw [e1, e2]; exact .cons h ih
theorem kp_all : ∀ {ps : List (NestedKey × Addr × V)} {qs : List (NestedKey × PyData)} {es : Ents} {kvs : List (NestedKey × PyData)}, KP K I ps qs → KP K I es kvs → KP K I (putAllX es ps) (putAllD kvs qs)
  | [], _, _, _, .nil, h => h
  | p :: ps, q :: qs, es, kvs, .cons r t, h => by
    show KP K I (putAllX (putX es p.1 p.2.1 p.2.2) ps) (putAllD (putD kvs q.1 q.2) qs)
    refine kp_all t ?_
    rw [← r.1]
    exact kp_put h p.1 p.2.1 r.2
theorem kp_mono {I J : Hp} (e : Same I J) {es : Ents} {kvs : List (NestedKey × PyData)} (h : KP K I es kvs) : KP K J es kvs := Paired.mapP h fun _ _ q => ⟨q.1, dp_mono e _ _ q.2⟩
theorem keys_mono {I J : Hp} (e : Same I J) {es : Ents} (h : KeysAt K I es) : KeysAt K J es := fun x hx => ⟨dp_mono e _ _ (h x hx).dp, (h x hx).dep⟩
theorem KeyAt.mono {I J : Hp} (e : Same I J) {b : Addr} {k : NestedKey} (h : KeyAt K I b k) : KeyAt K J b k := ⟨dp_mono e _ _ h.dp, h.dep⟩
theorem Vw.dct {v : V} {l : List (PyData × PyData)} (h : Vw c I H v (.dict l)) : ∃ p es kvs, v = .ref p ∧ H p = some (DX c.prog c.wo p es) ∧ KD c.K I es kvs ∧ l = kvs.map (fun p => (p.1.data, p.2)) := by
  generalize hx : PyData.dict l = x at h
  cases h with
  | d h => cases h <;> cases hx
  | l h1 h2 => cases hx
  | t h1 h2 =>
    unfold dictD at hx
    injection hx with hx
    exact ⟨_, _, _, rfl, h1, h2, hx⟩
/-! ### in, len -/
def inDB (x y : PyData) : Option Bool := match y with
  | .dict l => (keyOf x).bind fun k => (kvsOf l).map fun kvs => (valD kvs k).isSome
  | _ => none
def inK2 : List PyData → Option R
  | [x, y] => match inB x y with
    | some b => some (.d (.bool b))
    | none => (inDB x y).map fun b => .d (.bool b)
  | _ => none
def notInK2 : List PyData → Option R
  | [x, y] => match inB x y with
    | some b => some (.d (.bool (!b)))
    | none => (inDB x y).map fun b => .d (.bool (!b))
  | _ => none
def rInU2 (K : PySem.W.Frag) (P : Program) (w : World) : R2 := fun x y H Q => rInU K x y H Q ∨ rDXin K P w x y H Q
def rNotInU2 (K : PySem.W.Frag) (P : Program) (w : World) : R2 := fun x y H Q => rNotInU K x y H Q ∨ rDXnotIn K P w x y H Q
theorem op_inU2 (hu : X.A.units + 65 < cLine) : OpR X (compareOp .In) (rInU2 X.K X.prog X.w) := orr (op_inU hu) (op_dxin (by omega))
theorem op_notInU2 (hu : X.A.units + 65 < cLine) : OpR X (compareOp .NotIn) (rNotInU2 X.K X.prog X.w) := orr (op_notInU hu) (op_dxnotIn (by omega))
theorem inD_of {v w : V} {x y : PyData} {b : Bool} (ih : Same I H) (h1 : Vw c I H v x) (h2 : Vw c I H w y) (e : inDB x y = some b) : ∃ kb a k es, v = .ref kb ∧ w = .ref a ∧ KeyAt c.K H kb k ∧ Rd H a (DX c.prog c.wo a es) ∧ KeysAt c.K H es ∧ b = (valX es k).isSome := by
  unfold inDB at e
  split at e
  · rename_i l
    obtain ⟨p, es, kvs, rfl, k1, k2, rfl⟩ := h2.dct
    cases e1 : keyOf x with
    | none => rw [e1] at e; cases e
    | some k =>
      rw [e1, Option.bind_some, kvsOf_map] at e
      cases e
      have hx : notDict x = true := by
        cases x with
        | dict _ => unfold keyOf isTup at e1; cases e1
        | _ => rfl
      obtain ⟨kb, rfl, ka⟩ := key_at (h1.dp ih hx) e1
      exact ⟨kb, p, k, es, rfl, rfl, ka, .inl k1, keys_mono ih k2.2, (kp_isSome k2.1 k).symm⟩
  · cases e
theorem n_in2 : NOk c inK2 (rd2 (rInU2 c.K c.prog c.wo)) := by
  intro I H vs ds res Q ih hv hk q
  unfold inK2 at hk
  split at hk
  · rename_i x y
    cases e0 : inB x y with
    | some b =>
      rw [e0] at hk
      obtain ⟨v, w, rfl, h1, h2⟩ := vw2 hv
      exact .inl (n_in I H _ _ res Q ih hv (show (inB x y).map (fun b => R.d (.bool b)) = some res by rw [e0]; exact hk) q)
    | none =>
      rw [e0] at hk
      cases e1 : inDB x y with
      | none => rw [e1] at hk; cases hk
      | some b =>
        rw [e1] at hk; cases hk
        obtain ⟨v, w, rfl, h1, h2⟩ := vw2 hv
        obtain ⟨kb, a, k, es, rfl, rfl, z1, z2, z3, rfl⟩ := inD_of ih h1 h2 e1
        exact .inr ⟨kb, a, k, es, rfl, rfl, z1, z2, z3, ans_d ih (.bl _) q⟩
  · cases hk
theorem n_notIn2 : NOk c notInK2 (rd2 (rNotInU2 c.K c.prog c.wo)) := by
  intro I H vs ds res Q ih hv hk q
  unfold notInK2 at hk
  split at hk
  · rename_i x y
    cases e0 : inB x y with
    | some b =>
      rw [e0] at hk
      obtain ⟨v, w, rfl, h1, h2⟩ := vw2 hv
      exact .inl (n_notIn I H _ _ res Q ih hv (show (inB x y).map (fun b => R.d (.bool (!b))) = some res by rw [e0]; exact hk) q)
    | none =>
      rw [e0] at hk
      cases e1 : inDB x y with
      | none => rw [e1] at hk; cases hk
      | some b =>
        rw [e1] at hk; cases hk
        obtain ⟨v, w, rfl, h1, h2⟩ := vw2 hv
        obtain ⟨kb, a, k, es, rfl, rfl, z1, z2, z3, rfl⟩ := inD_of ih h1 h2 e1
        exact .inr ⟨kb, a, k, es, rfl, rfl, z1, z2, z3, ans_d ih (.bl _) q⟩
  · cases hk
def lenK2 : List PyData → Option R
  | [.dict l] => some (.d (.int l.length))
  | ds => lenK ds
def rLenU2 (K : PySem.W.Frag) (P : Program) (w : World) : List V → Hp → VK → Prop := fun xs H Q => rLenU K xs H Q ∨ rDXlen K P w xs H Q
theorem call_lenU2 : CallR X (.builtin "len") (rLenU2 X.K X.prog X.w) := call_lenU.or call_dxlen
theorem n_len2 : NOk c lenK2 (rLenU2 c.K c.prog c.wo) := by
  intro I H vs ds res Q ih hv hk q
  unfold lenK2 at hk
  split at hk
  · cases hk
    obtain ⟨v, rfl, h1⟩ := vw1 hv
    obtain ⟨p, es, kvs, rfl, k1, k2, rfl⟩ := h1.dct
    refine .inr ⟨p, es, rfl, .inl k1, keys_mono ih k2.2, ?_⟩
    rw [Paired.length k2.1, ← List.length_map (f := fun p : NestedKey × PyData => (p.1.data, p.2))]
    exact ans_d ih (.int _) q
  · exact .inl (n_len I H _ _ res Q ih hv hk q)
end
end TP
namespace TP
open PySem PySem.Spec PyProof.Rows L2
variable [TabsOf]
section
variable {c : TP.Ctx} {X : Cx} {E : XK}
/-! ### methods of such a dict -/
def TyDX (P : Program) (w : World) (x : V) (H : Hp) : Prop := ∃ a es, x = .ref a ∧ H a = some (DX P w a es)
theorem tyDX_is {pins : List (Addr × Obj)} {σ : L2.St} {H : Hp} {s : Shared} {x : V} {v : Value} (I : Inv X pins σ H s) (r : RelV x v) (ty : TyDX X.prog X.w x H) :
    s.TypeIs v "dict" ∧ ∀ a, v = .ref a → ∃ ob, s.heap.get? a = some ob ∧ ob.dict = none := by
  obtain ⟨a, es, rfl, hd⟩ := ty
  cases r
  obtain ⟨_, _, _, _, o, _, _, e, ex, _⟩ := dx_rd I.hok (.inl hd)
  refine ⟨⟨o, e, ex.1⟩, fun b e2 => ?_⟩
  cases e2
  exact ⟨o, e, ex.2.1⟩
theorem pe_bmX {o e : Expr} {es : List Expr} {to : TE} {t : TA} {name : Str} {apos cpos : Pos} {id : String} {r : V → List V → Hp → VK → Prop} (pa : PlainAttrs "dict") (slot : Slot "dict" name id) (hty : typeOf (.builtin id) = pure (.type "method_descriptor")) (hm : MtR X id r) (ho : PE X o to) (ha : PA X (e :: es) t)
    (hbase : attributeBase o name X.env (eval o X.env) = eval o X.env := by rfl)
    (hfew : ((backTo cpos (starEach (e :: es) X.env)).all (fun x => !x.1) && (backToKw cpos (keywordEach [] X.env)).all (fun x => x.1.isSome)
      && decide ((e :: es).length + ([] : List Keyword).length + (if ([] : List Keyword).isEmpty then 0 else 1) < 30)) = true := by rfl)
    (hline : (apos.endLine == cpos.line) = true := by rfl) (hs : starEach (e :: es) X.env = (false, eval e X.env) :: starEach es X.env := by rfl) (hplain : (backTo cpos (starEach es X.env)).any (·.1) = false := by rfl) :
    PE X (.Call (.Attribute o name apos) (e :: es) [] cpos) (tBMG (TyDX X.prog X.w) r to t) := by
  refine ⟨fun pins s σ H Q I h => ?_⟩
  refine wpAny_Call_method_late hbase hfew hline rfl (thn (ho.run pins s σ H _ I h) fun v s1 ⟨x, H1, I1, r1, ty, q1⟩ => ?_)
  obtain ⟨h1, h2⟩ := tyDX_is I1 r1 ty
  refine ⟨"dict", id, pa, slot, hty, h1, h2, ?_⟩
  have hA := ha.run cpos pins s1 σ H1 _ I1 q1
  rw [hs] at hA ⊢
  refine Calls.callWith_builtin (by show (false || (backTo cpos (starEach es X.env)).any (·.1)) = false; rw [hplain] <;> rfl) (Calls.evalArgs_plain ?_)
  exact thn hA fun us s2 ⟨vs, H2, I2, r2, q2⟩ => hm pins s2 σ H2 x vs v us Q I2 r1 r2 q2
def isDX : R → Bool
  | .dt _ => true
  | _ => false
theorem se_mutX {o e : Expr} {es : List Expr} {os : List Op} {i : Nat} {π : List (Sx × Nat)} {m : R → List R → Option (R × R)} {rd : V → List V → Hp → VK → Prop} {id : String} {name : Str} {apos cpos : Pos} (ok : CtxOk X c) (slot : Slot "dict" name id) (hm1 : typeOf (.builtin id) = pure (.type "method_descriptor")) (hm : MtR X id rd) (mo : MOk c m rd)
    (sp : SP X c o i π) (h : SOs X c E (e :: es) os)
    (hbase : attributeBase o name X.env (eval o X.env) = eval o X.env := by rfl)
    (hfew : ((backTo cpos (starEach (e :: es) X.env)).all (fun x => !x.1) && (backToKw cpos (keywordEach [] X.env)).all (fun x => x.1.isSome)
      && decide ((e :: es).length + ([] : List Keyword).length + (if ([] : List Keyword).isEmpty then 0 else 1) < 30)) = true := by rfl)
    (hline : (apos.endLine == cpos.line) = true := by rfl) (hplain : (backTo cpos (starEach es X.env)).any (·.1) = false := by rfl) :
    SE X c E (.Call (.Attribute o name apos) (e :: es) [] cpos) (cMut i π isDX m os) := by
  cases h with
  | @cons _ oo _ os h1 h2 h3 =>
  obtain ⟨ts, pp, tr⟩ := (SOs.cons h1 h2 h3).pa
  exact pe_imp (pe_bmX PySem.F.plainAttrs_dict slot hm1 hm sp pp hbase hfew hline h2 hplain) fun σ H Q h => mut_run (TyP := TyDX X.prog X.w) ok (fun I H v r gp hr e => by
    cases hr with
    | dt k1 k2 k3 => rw [ok.pr, ok.wo]; exact ⟨_, _, rfl, k1⟩
    | _ => cases e) rfl mo tr h
/-- the dict is written, data that were owned ft frozen first -/
theorem put_dt {I H : Hp} {p : Addr} {es es' : Ents} {kvs : List (NestedKey × PyData)} {ft : List Addr} (ih : Same I H) (e : H p = some (DX c.prog c.wo p es)) (ni : I p = none) (hn : p ∉ ft) (d : KD c.K (frz I H ft) es' kvs) {Q : VK} {res : R}
    {y : V} (q : ∀ vres I' H' gp' fr, Stp ([p] ++ ft) I H (gp' ++ fr) I' H' → (gp' ++ fr).Nodup → RepR c I' H' (.ref p) (.dt kvs) gp' → RepR c I' H' vres res fr → Q vres H') (hy : ∀ I' H', Same (frz I H ft) I' → RepR c I' H' y res []) : Q y (upd H p (DX c.prog c.wo p es')) := by
  have z1 : Stp ([p] ++ ft) I H [p] (frz I H ft) H := (Stp.refl (fp := [p] ++ ft) ih).frz
  have nt : ∀ vs, DX c.prog c.wo p es ≠ .tup vs := fun vs z => by unfold DX at z; cases z
  have nb : ∀ ps, DX c.prog c.wo p es ≠ .tbl ps := fun vs z => by unfold DX at z; cases z
  have n2 : frz I H ft p = none := frz_none ⟨ni, _, e, nt, nb⟩ hn
  have z2 : Stp [p] (frz I H ft) H [p] (frz I H ft) (upd H p (DX c.prog c.wo p es')) := Stp.ofUpd (frz_ih ih) e n2 nt nb fun z => dx_ne_code z
  exact q y (frz I H ft) _ [p] [] (by simpa using z1.trans z2) (by simp) (.dt upd_same n2 d) (hy _ _ (Same.refl _))
theorem kd_frz {I H : Hp} {es : Ents} {kvs : List (NestedKey × PyData)} {ft : List Addr} (ih : Same I H) (h : KD c.K I es kvs) : KD c.K (frz I H ft) es kvs := kd_mono (frz_ii ih) h
def popXM : R → List R → Option (R × R)
  | .dt kvs, [.d x] => (keyOf x).bind fun k => (valD kvs k).map fun v => (.dt (dropD kvs k), .d v)
  | _, _ => none
theorem n_popX : MOk c popXM (rDXpop c.K c.prog c.wo) := by
  intro I H v r1 gp vs rs ft r1' res Q ih h1 h2 nd e q
  unfold popXM at e
  split at e
  · rename_i kvs x
    cases e1 : keyOf x with
    | none => rw [e1] at e; cases e
    | some k =>
      rw [e1, Option.bind_some] at e
      cases e2 : valD kvs k with
      | none => rw [e2] at e; cases e
      | some d =>
        rw [e2] at e; cases e
        obtain ⟨w, rfl, hw⟩ := one_arg h2
        cases h1 with
        | @dt p es _ k1 k2 k3 =>
        cases hw with
        | d hw =>
        obtain ⟨b, rfl, ka⟩ := key_at hw e1
        rcases kp_val k3.1 k with ⟨v, d', z1, z2, z3⟩ | ⟨z1, z2⟩
        · rw [e2] at z2; cases z2
          exact ⟨p, b, k, es, v, rfl, rfl, ka.mono ih, k1, keys_mono ih k3.2, z1, put_dt (ft := []) ih k1 k2 (by simp) ⟨kp_drop (kp_mono (frz_ii ih) k3.1) k, keysAt_drop (keys_mono (frz_ii ih) k3.2)⟩ q fun I' H' s => .d (dp_mono s _ _ (dp_mono (frz_ii ih) _ _ z3))⟩
        · rw [e2] at z2; cases z2
  · cases e
/-- a list of pairs, as entries -/
def pairsOf : List PyData → Option (List (NestedKey × PyData))
  | [] => some []
  | .tuple [x, v] :: ds => (keyOf x).bind fun k => (pairsOf ds).map ((k, v) :: ·)
  | _ => none
theorem pairs_of {K : PySem.W.Frag} {I : Hp} : ∀ {ds : List PyData} {vs : List V} {qs : List (NestedKey × PyData)}, DpAll K I vs ds → pairsOf ds = some qs → ∃ ps : List (Addr × NestedKey × Addr × V), vs = ps.map (fun p => V.ref p.1) ∧ (∀ p ∈ ps, SqT K I p.1 [.ref p.2.2.1, p.2.2.2]) ∧ KeysAt K I (ps.map (·.2)) ∧ KP K I (ps.map (·.2)) qs
  | [], _, _, .nil, e => by cases e; exact ⟨[], rfl, (fun _ h => by cases h), (fun _ h => by cases h), .nil⟩
  | d :: ds, _, qs, .cons h1 h2, e => by
    unfold pairsOf at e
    split at e
    · rename_i e0
      cases e0
    · rename_i x v ds' e0
      cases e0
      cases e1 : keyOf x with
      | none => rw [e1] at e; cases e
      | some k =>
        rw [e1, Option.bind_some] at e
        cases e2 : pairsOf ds with
        | none => rw [e2] at e; cases e
        | some q =>
          rw [e2] at e; cases e
          obtain ⟨ps, rfl, a1, a2, a3⟩ := pairs_of h2 e2
          cases h1 with
          | @tup t us _ hs ha =>
            cases ha with
            | cons hk ha =>
            cases ha with
            | cons hv ha =>
            cases ha
            obtain ⟨b, rfl, ka⟩ := key_at hk e1
            refine ⟨(t, k, b, _) :: ps, rfl, fun p hp => ?_, fun e he => ?_, .cons ⟨rfl, hv⟩ a3⟩
            · rcases List.mem_cons.mp hp with rfl | hp
              · exact hs
              · exact a1 p hp
            · rcases List.mem_cons.mp he with rfl | he
              · exact ka
              · exact a2 e he
    · cases e
def updXM : R → List R → Option (R × R)
  | .dt kvs, [r] => (match toD r with
    | some (.list ds) => (pairsOf ds).bind fun qs => if kvs.length + qs.length ≤ 100000 then some (.dt (putAllD kvs qs), .d .none) else none
    | _ => none)
  | _, _ => none
theorem n_updX : MOk c updXM (rDXupd c.K c.prog c.wo) := by
  intro I H v r1 gp vs rs ft r1' res Q ih h1 h2 nd e q
  unfold updXM at e
  split at e
  · rename_i kvs r
    split at e
    · rename_i ds e1
      cases e2 : pairsOf ds with
      | none => rw [e2] at e; cases e
      | some qs =>
        rw [e2, Option.bind_some] at e
        split at e
        · rename_i hl
          cases e
          obtain ⟨w, rfl, hw⟩ := one_arg h2
          cases h1 with
          | @dt p es _ k1 k2 k3 =>
          have np : p ∉ ft := (List.nodup_cons.mp (by simpa using nd)).1
          have dx := hw.frz ih e1
          cases dx with
          | @lst l us _ hs ha =>
            obtain ⟨ps, rfl, a1, a2, a3⟩ := pairs_of ha e2
            have jh : Same (frz I H ft) H := frz_ih ih
            refine ⟨p, l, es, ps, rfl, rfl, k1, keys_mono ih k3.2, sm_l jh hs, fun p hp => sm_t jh (a1 p hp), keys_mono jh a2, ?_, ?_⟩
            · have e3 := Paired.length k3.1
              have e4 := Paired.length a3
              rw [List.length_map] at e4
              rw [e3, e4]; exact le_line' hl
            · exact put_dt ih k1 k2 np ⟨kp_all a3 (kp_mono (frz_ii ih) k3.1), keysAt_all (keys_mono (frz_ii ih) k3.2) a2⟩ q fun _ _ _ => .d .non
        · cases e
    · cases e
  · cases e
def cDict0 : EF := fun ρ => .ok (.dt []) ρ
theorem se_dict0 {pos : Pos} (ok : CtxOk X c) : SE X c E (.Dict [] [] pos) cDict0 := by
  refine pe_imp pe_dxnew fun σ H Q ⟨I, ρ, fp, G, o⟩ p hp => ?_
  rw [ok.pr, ok.wo]
  have st := stp_new (o := DX c.prog c.wo p []) G.ih hp
  exact o (.ref p) I _ fp [p] (G.new st) (.dt upd_same (G.ih.free hp) ⟨.nil, fun _ h => by cases h⟩) (nd_new G st (by simp)) ((Stp.refl (fp := fp) G.ih).new st)
end
end TP
set_option linter.all false
set_option maxRecDepth 100000
set_option maxHeartbeats 2000000
/-! TPw: what is wanted behind a run: statements, expressions, operands, calls, one frame each. -/
namespace TP
open PySem PySem.Spec PyProof.Rows L2
variable [TabsOf]
abbrev XPost := Xc → List R → Prop
abbrev EPost := R → List R → Prop
abbrev SPost := Fl → List R → Prop
abbrev TPost := Bool → List R → Prop
abbrev OPost := List Hd → List R → Prop
abbrev noX : XPost := fun _ _ => False
def Wt {α : Type} (o : Rs α) (P : α → List R → Prop) (X : XPost) : Prop := match o with
  | .ok a ρ => P a ρ
  | .ex x ρ => X x ρ
  | .no => False
def Wf (o : FR) (P : R → List R → Prop) (X : XPost) : Prop := match o with
  | .ok r rs => P r rs
  | .ex x rs => X x rs
  | .no => False
section
variable {α β : Type} {o : Rs α} {P P' : α → List R → Prop} {Q : β → List R → Prop} {X X' : XPost} {ρ ρ' : List R} {a : α}
theorem Wt.bind {f : α → List R → Rs β} (h : Wt o (fun a ρ => Wt (f a ρ) Q X) X) : Wt (o.bind f) Q X := by cases o <;> exact h
theorem Wt.bindE {f : α → List R → Rs β} : Wt (o.bind f) Q X = Wt o (fun a ρ => Wt (f a ρ) Q X) X := by cases o <;> rfl
theorem Wt.congr (h : ∀ a ρ, P a ρ = P' a ρ) : Wt o P X = Wt o P' X := by
  have : P = P' := funext fun a => funext fun ρ => h a ρ
  rw [this]
theorem Wt.bindC {f : α → List R → Rs β} (h : ∀ a ρ, Wt (f a ρ) Q X = P a ρ) : Wt (o.bind f) Q X = Wt o P X := by rw [Wt.bindE]; exact Wt.congr h
theorem Wt.imp (h : Wt o P X) (i : ∀ a ρ, P a ρ → P' a ρ) (j : ∀ x ρ, X x ρ → X' x ρ) : Wt o P' X' := by
  cases o with
  | ok a ρ => exact i _ _ h
  | ex x ρ => exact j _ _ h
  | no => exact h
theorem Wt.mono (h : Wt o P X) (i : ∀ a ρ, P a ρ → P' a ρ) : Wt o P' X := h.imp i fun _ _ z => z
theorem Wt.of (e : o = .ok a ρ) (h : P a ρ) : Wt o P X := by rw [e]; exact h
theorem Wt.ofx {x : Xc} (e : o = .ex x ρ) (h : X x ρ) : Wt o P X := by rw [e]; exact h
theorem Wt.get (h : Wt o (fun a' ρ' => a' = a ∧ ρ' = ρ) noX) : o = .ok a ρ := by
  cases o with
  | ok a ρ => obtain ⟨rfl, rfl⟩ := h; rfl
  | ex x ρ => exact h.elim
  | no => exact h.elim
end
section
variable {o : FR} {P P' : R → List R → Prop} {X X' : XPost} {r : R} {rs : List R}
theorem Wf.imp (h : Wf o P X) (i : ∀ a ρ, P a ρ → P' a ρ) (j : ∀ x ρ, X x ρ → X' x ρ) : Wf o P' X' := by
  cases o with
  | ok a ρ => exact i _ _ h
  | ex x ρ => exact j _ _ h
  | no => exact h
theorem Wf.mono (h : Wf o P X) (i : ∀ a ρ, P a ρ → P' a ρ) : Wf o P' X := h.imp i fun _ _ z => z
theorem Wf.of (e : o = .ok r rs) (h : P r rs) : Wf o P X := by rw [e]; exact h
theorem Wf.ofx {x : Xc} (e : o = .ex x rs) (h : X x rs) : Wf o P X := by rw [e]; exact h
theorem Wf.get (h : Wf o (fun a' ρ' => a' = r ∧ ρ' = rs) noX) : o = .ok r rs := by
  cases o with
  | ok a ρ => obtain ⟨rfl, rfl⟩ := h; rfl
  | ex x ρ => exact h.elim
  | no => exact h.elim
theorem Wf.ex (h : Wf o P X) (hx : ∀ x ρ, ¬ X x ρ) : ∃ r rs, o = .ok r rs ∧ P r rs := by
  cases o with
  | ok a ρ => exact ⟨_, _, rfl, h⟩
  | ex x ρ => exact (hx _ _ h).elim
  | no => exact h.elim
end
/-! ### statements -/
section
variable {s t u : SF} {f g : EF} {P : SPost} {X : XPost} {ρ ρ' : List R} {r : R} {i j l : Nat} {b : Bool} {tt : TF}
def kSeq (t : SF) (P : SPost) (X : XPost) : SPost := fun f ρ => match f with
  | .nx => Wt (t ρ) P X
  | f => P f ρ
theorem w_seq : Wt (cSeq s t ρ) P X = Wt (s ρ) (kSeq t P X) X := Wt.bindC fun f ρ => by cases f <;> rfl
theorem kSeq_nx : kSeq t P X .nx ρ = Wt (t ρ) P X := (rfl)
theorem kSeq_rt : kSeq t P X (.rt r) ρ = P (.rt r) ρ := (rfl)
theorem kSeq_ct : kSeq t P X .ct ρ = P .ct ρ := (rfl)
theorem kSeq_bk : kSeq t P X .bk ρ = P .bk ρ := (rfl)
theorem w_nx : Wt (cNx ρ) P X = P .nx ρ := (rfl)
theorem w_bk : Wt (cBk ρ) P X = P .bk ρ := (rfl)
theorem w_ct : Wt (cCt ρ) P X = P .ct ρ := (rfl)
def kRet (P : SPost) : EPost := fun r ρ => P (.rt r) ρ
theorem w_ret : Wt (cRet f ρ) P X = Wt (f ρ) (kRet P) X := Wt.bindC fun _ _ => rfl
theorem kRet_ok : kRet P r ρ = P (.rt r) ρ := (rfl)
theorem w_retN : Wt (cRetN ρ) P X = P (.rt (.d .none)) ρ := (rfl)
def kDrop (P : SPost) : EPost := fun _ ρ => P .nx ρ
theorem w_drop : Wt (cDrop f ρ) P X = Wt (f ρ) (kDrop P) X := Wt.bindC fun _ _ => rfl
theorem kDrop_ok : kDrop P r ρ = P .nx ρ := (rfl)
def kSet (i : Nat) (P : SPost) : EPost := fun r ρ => P .nx (ρ.set i r)
theorem w_set : Wt (cSet i f ρ) P X = Wt (f ρ) (kSet i P) X := Wt.bindC fun _ _ => rfl
theorem kSet_ok : kSet i P r ρ = P .nx (ρ.set i r) := (rfl)
def kO {α : Type} (o : Option α) (P : α → Prop) : Prop := match o with
  | some a => P a
  | none => False
theorem kO_some {α : Type} {a : α} {P : α → Prop} : kO (some a) P = P a := (rfl)
theorem kO_ok {α : Type} {o : Option α} {a : α} {P : α → Prop} (e : o = some a) (h : P a) : kO o P := by rw [e]; exact h
theorem kO_ex {α : Type} {o : Option α} {P : α → Prop} (h : kO o P) : ∃ a, o = some a ∧ P a := by
  cases o with
  | none => exact h.elim
  | some a => exact ⟨a, rfl, h⟩
theorem kO_map {α β : Type} {o : Option α} {f : α → β} {P : β → Prop} : kO (o.map f) P = kO o fun a => P (f a) := by cases o <;> rfl
def kAsg (g : GT) (P : SPost) : EPost := fun r ρ => kO (g r ρ) (P .nx)
theorem w_asg {g : GT} : Wt (cAsg f g ρ) P X = Wt (f ρ) (kAsg g P) X := Wt.bindC fun r ρ => by
  unfold kAsg
  cases g r ρ <;> rfl
theorem kAsg_ok {g : GT} : kAsg g P r ρ = kO (g r ρ) (P .nx) := (rfl)
def kIte (s u : SF) (P : SPost) (X : XPost) : TPost := fun b ρ => if b = true then Wt (s ρ) P X else Wt (u ρ) P X
theorem w_ite : Wt (cIte tt s u ρ) P X = Wt (tt ρ) (kIte s u P X) X := Wt.bindC fun b ρ => by cases b <;> rfl
theorem kIte_t : kIte s u P X true ρ = Wt (s ρ) P X := if_pos rfl
theorem kIte_f : kIte s u P X false ρ = Wt (u ρ) P X := if_neg (by decide)
theorem kIte_b (h1 : b = true → Wt (s ρ) P X) (h2 : b = false → Wt (u ρ) P X) : kIte s u P X b ρ := by
  cases b
  · rw [kIte_f]; exact h2 rfl
  · rw [kIte_t]; exact h1 rfl
theorem kIte_d {p : Prop} [Decidable p] (h1 : p → Wt (s ρ) P X) (h2 : ¬ p → Wt (u ρ) P X) : kIte s u P X (decide p) ρ :=
  kIte_b (fun e => h1 (of_decide_eq_true e)) (fun e => h2 (of_decide_eq_false e))
theorem kIte_n {p : Prop} [Decidable p] (h1 : ¬ p → Wt (s ρ) P X) (h2 : p → Wt (u ρ) P X) : kIte s u P X (!decide p) ρ :=
  kIte_b (fun e => h1 (by simpa using e)) (fun e => h2 (by simpa using e))
theorem kIte_e {a b : Int} (h1 : a = b → Wt (s ρ) P X) (h2 : a ≠ b → Wt (u ρ) P X) : kIte s u P X (a == b) ρ :=
  kIte_b (fun e => h1 (by simpa using e)) (fun e => h2 (by simpa using e))
theorem w_raise {n : Nat} : Wt (cRaise n ρ) P X = X ⟨n, none⟩ ρ := (rfl)
/-! two and three at once -/
def kPar2 (i j : Nat) (P : SPost) : OPost := fun hs ρ => match hdRs hs with
  | some [r, q] => P .nx ((ρ.set i r).set j q)
  | _ => False
theorem w_par2 {os : List Op} : Wt (cPar2 i j os ρ) P X = Wt (cOps os ρ) (kPar2 i j P) X := Wt.bindC fun hs ρ => by
  unfold kPar2
  rcases hdRs hs with _ | (_ | ⟨r, _ | ⟨q, _ | ⟨t, l⟩⟩⟩) <;> rfl
theorem kPar2_ok {r q : R} : kPar2 i j P [.t r, .t q] ρ = P .nx ((ρ.set i r).set j q) := (rfl)
def kPar3 (i j l : Nat) (P : SPost) : OPost := fun hs ρ => match hdRs hs with
  | some [r, q, t] => P .nx (((ρ.set i r).set j q).set l t)
  | _ => False
theorem w_par3 {os : List Op} : Wt (cPar3 i j l os ρ) P X = Wt (cOps os ρ) (kPar3 i j l P) X := Wt.bindC fun hs ρ => by
  unfold kPar3
  rcases hdRs hs with _ | (_ | ⟨r, _ | ⟨q, _ | ⟨t, _ | ⟨u, l⟩⟩⟩⟩) <;> rfl
theorem kPar3_ok {r q t : R} : kPar3 i j l P [.t r, .t q, .t t] ρ = P .nx (((ρ.set i r).set j q).set l t) := (rfl)
/-! a body -/
def kRun (np : Nat) (P : EPost) : SPost := fun f ρ => match f with
  | .rt r => P r (ρ.take np)
  | .nx => P (.d .none) (ρ.take np)
  | _ => False
def kRunX (np : Nat) (X : XPost) : XPost := fun x ρ => X x (ρ.take np)
theorem w_run {p : SF} {n np : Nat} {rs : List R} {P : EPost} (hl : rs.length = np) : Wf (runG p n np rs) P X = Wt (p (rs ++ List.replicate (n - np) .junk)) (kRun np P) (kRunX np X) := by
  unfold runG
  rw [if_pos hl]
  generalize p (rs ++ List.replicate (n - np) .junk) = o
  cases o with
  | ok f ρ => cases f <;> rfl
  | ex x ρ => rfl
  | no => rfl
theorem kRun_rt {np : Nat} {P : EPost} : kRun np P (.rt r) ρ = P r (ρ.take np) := (rfl)
theorem kRun_nx {np : Nat} {P : EPost} : kRun np P .nx ρ = P (.d .none) (ρ.take np) := (rfl)
theorem kRunX_ok {np : Nat} {x : Xc} : kRunX np X x ρ = X x (ρ.take np) := (rfl)
end
/-! ### operands -/
section
variable {os : List Op} {f : EF} {P : OPost} {X : XPost} {ρ ρ' : List R} {r : R} {i j : Nat} {x : PyData} {hs : List Hd} {π : List (Sx × Nat)}
def kOt (r : R) (P : OPost) : OPost := fun hs ρ => P (.t r :: hs) ρ
def kOs (i : Nat) (P : OPost) : OPost := fun hs ρ => P (.s i :: hs) ρ
def kOp (i : Nat) (π : List (Sx × Nat)) (P : OPost) : OPost := fun hs ρ => P (.p i π :: hs) ρ
def kOe (os : List Op) (P : OPost) (X : XPost) : EPost := fun r ρ => Wt (cOps os ρ) (kOt r P) X
theorem wo_nil : Wt (cOps [] ρ) P X = P [] ρ := (rfl)
theorem wo_e : Wt (cOps (.e f :: os) ρ) P X = Wt (f ρ) (kOe os P X) X := by
  rw [cOps.eq_2]
  exact Wt.bindC fun r ρ => Wt.bindC fun hs ρ => rfl
theorem kOe_ok : kOe os P X r ρ = Wt (cOps os ρ) (kOt r P) X := (rfl)
theorem wo_c : Wt (cOps (.c x :: os) ρ) P X = Wt (cOps os ρ) (kOt (.d x) P) X := by
  rw [cOps.eq_3]
  exact Wt.bindC fun hs ρ => rfl
/-- a slot, looked at -/
def kSl (o : Option R) (Q : Prop) : Prop := match o with
  | some r => isJ r = false ∧ Q
  | none => False
theorem kSl_d {Q : Prop} : kSl (some (.d x)) Q = Q := propext ⟨fun h => h.2, fun h => ⟨rfl, h⟩⟩
theorem kSl_ol {Q : Prop} {xs : List PyData} : kSl (some (.ol xs)) Q = Q := propext ⟨fun h => h.2, fun h => ⟨rfl, h⟩⟩
theorem kSl_on {Q : Prop} {xs : List R} : kSl (some (.on xs)) Q = Q := propext ⟨fun h => h.2, fun h => ⟨rfl, h⟩⟩
theorem kSl_tn {Q : Prop} {xs : List R} : kSl (some (.tn xs)) Q = Q := propext ⟨fun h => h.2, fun h => ⟨rfl, h⟩⟩
theorem kSl_dt {Q : Prop} {xs : List (NestedKey × PyData)} : kSl (some (.dt xs)) Q = Q := propext ⟨fun h => h.2, fun h => ⟨rfl, h⟩⟩
theorem kSl_dk {Q : Prop} {n : Nat} {xs : List R} : kSl (some (.dk n xs)) Q = Q := propext ⟨fun h => h.2, fun h => ⟨rfl, h⟩⟩
theorem kSl_ob {Q : Prop} {n : Nat} {xs : List R} : kSl (some (.ob n xs)) Q = Q := propext ⟨fun h => h.2, fun h => ⟨rfl, h⟩⟩
theorem kSl_r {Q : Prop} (h : isJ r = false) : kSl (some r) Q = Q := propext ⟨fun h => h.2, fun q => ⟨h, q⟩⟩
theorem wo_s : Wt (cOps (.s i :: os) ρ) P X = kSl ρ[i]? (Wt (cOps os ρ) (kOs i P) X) := by
  rw [cOps.eq_4]
  cases ρ[i]? with
  | none => rfl
  | some r =>
    show Wt (if isJ r = true then .no else _) P X = (isJ r = false ∧ _)
    by_cases hj : isJ r = true
    · rw [if_pos hj, hj]
      exact propext ⟨fun h => h.elim, fun h => nomatch h.1⟩
    · rw [if_neg hj]
      exact Eq.trans (Wt.bindC (P := kOs i P) fun hs ρ => rfl) (propext ⟨fun h => ⟨by simpa using hj, h⟩, fun h => h.2⟩)
theorem wo_p : Wt (cOps (.p i π :: os) ρ) P X = kSl (getP ρ i π) (os.all Op.quiet = true ∧ Wt (cOps os ρ) (kOp i π P) X) := by
  rw [cOps.eq_5]
  cases getP ρ i π with
  | none => rfl
  | some r =>
    show Wt (if isJ r = true then .no else if os.all Op.quiet = true then _ else .no) P X = (isJ r = false ∧ _)
    by_cases hj : isJ r = true
    · rw [if_pos hj, hj]
      exact propext ⟨fun h => h.elim, fun h => nomatch h.1⟩
    · rw [if_neg hj]
      by_cases hq : os.all Op.quiet = true
      · rw [if_pos hq]
        exact Eq.trans (Wt.bindC (P := kOp i π P) fun hs ρ => rfl) (propext ⟨fun h => ⟨by simpa using hj, hq, h⟩, fun h => h.2.2⟩)
      · rw [if_neg hq]
        exact propext ⟨fun h => h.elim, fun h => hq h.2.1⟩
theorem kOt_ok : kOt r P hs ρ = P (.t r :: hs) ρ := (rfl)
theorem kOs_ok : kOs i P hs ρ = P (.s i :: hs) ρ := (rfl)
theorem kOp_ok : kOp i π P hs ρ = P (.p i π :: hs) ρ := (rfl)
end
/-! ### expressions -/
section
variable {os : List Op} {f g h : EF} {P : EPost} {X : XPost} {ρ ρ' : List R} {r q : R} {i j : Nat} {x : PyData} {hs : List Hd} {π : List (Sx × Nat)} {k : List PyData → Option R} {xs : List PyData} {rs rs' : List R} {b : Bool} {tt : TF}
theorem w_c : Wt (cC x ρ) P X = P (.d x) ρ := (rfl)
/-- a slot's value is frozen and told -/
def kVar (o : Option R) (i : Nat) (P : EPost) (ρ : List R) : Prop := match o with
  | some (.d x) => P (.d x) ρ
  | some r => kO (toD r) fun x => P (.d x) (ρ.set i (.d x))
  | none => False
theorem w_var : Wt (cVar i ρ) P X = kVar ρ[i]? i P ρ := by
  unfold cVar
  cases e : ρ[i]? with
  | none => rfl
  | some r =>
    show Wt (match toD r with | some x => .ok (.d x) (ρ.set i (.d x)) | none => .no) P X = _
    cases r with
    | d x =>
      show P (.d x) (ρ.set i (.d x)) = P (.d x) ρ
      rw [set_self e]
    | _ =>
      unfold kVar
      simp only
      split
      · rename_i e1; rw [e1]; rfl
      · rename_i e1; rw [e1]; rfl
theorem kVar_d : kVar (some (.d x)) i P ρ = P (.d x) ρ := (rfl)
theorem kVar_ol : kVar (some (.ol xs)) i P ρ = P (.d (.list xs)) (ρ.set i (.d (.list xs))) := (rfl)
def kMv (o : Option R) (i : Nat) (P : EPost) (ρ : List R) : Prop := match o with
  | some (.d x) => P (.d x) ρ
  | some r => isJ r = false ∧ P r (ρ.set i .junk)
  | none => False
theorem w_mv : Wt (cMv i ρ) P X = kMv ρ[i]? i P ρ := by
  unfold cMv
  cases e : ρ[i]? with
  | none => rfl
  | some r =>
    cases r with
    | d x => rfl
    | junk => exact propext ⟨fun h => h.elim, fun h => by cases h.1⟩
    | _ => exact propext ⟨fun h => ⟨rfl, h⟩, fun h => h.2⟩
theorem kMv_d : kMv (some (.d x)) i P ρ = P (.d x) ρ := (rfl)
theorem kMv_ol : kMv (some (.ol xs)) i P ρ = P (.ol xs) (ρ.set i .junk) := propext ⟨fun h => h.2, fun h => ⟨rfl, h⟩⟩
theorem kMv_on : kMv (some (.on rs)) i P ρ = P (.on rs) (ρ.set i .junk) := propext ⟨fun h => h.2, fun h => ⟨rfl, h⟩⟩
theorem kMv_tn : kMv (some (.tn rs)) i P ρ = P (.tn rs) (ρ.set i .junk) := propext ⟨fun h => h.2, fun h => ⟨rfl, h⟩⟩
theorem kMv_dt {ks : List (NestedKey × PyData)} : kMv (some (.dt ks)) i P ρ = P (.dt ks) (ρ.set i .junk) := propext ⟨fun h => h.2, fun h => ⟨rfl, h⟩⟩
theorem kMv_dk {n : Nat} : kMv (some (.dk n rs)) i P ρ = P (.dk n rs) (ρ.set i .junk) := propext ⟨fun h => h.2, fun h => ⟨rfl, h⟩⟩
theorem kMv_ob {n : Nat} : kMv (some (.ob n rs)) i P ρ = P (.ob n rs) (ρ.set i .junk) := propext ⟨fun h => h.2, fun h => ⟨rfl, h⟩⟩
def kGet (o : Option R) (P : EPost) (ρ : List R) : Prop := match o with
  | some (.d x) => P (.d x) ρ
  | _ => False
theorem w_get : Wt (cGet i π ρ) P X = kGet (getP ρ i π) P ρ := by
  unfold cGet
  cases getP ρ i π with
  | none => rfl
  | some r => cases r <;> rfl
theorem kGet_d : kGet (some (.d x)) P ρ = P (.d x) ρ := (rfl)
def kN (k : List PyData → Option R) (P : EPost) : OPost := fun hs ρ => kO ((hviews ρ hs).bind k) fun r => P r ρ
theorem w_n : Wt (cN k os ρ) P X = Wt (cOps os ρ) (kN k P) X := Wt.bindC fun hs ρ => by
  unfold kN
  split
  · rename_i e; rw [e]; rfl
  · rename_i e; rw [e]; rfl
theorem kN_ok : kN k P hs ρ = kO ((hviews ρ hs).bind k) fun r => P r ρ := (rfl)
/-- truth values -/
def kAndE (g : EF) (P : EPost) (X : XPost) : EPost := fun r ρ => match r with
  | .d (.bool b) => if b = true then Wt (g ρ) P X else P (.d (.bool false)) ρ
  | _ => False
theorem asB_no {α : Type} {f : Bool → List R → Rs α} {Q : α → List R → Prop} (h : ∀ b, r ≠ .d (.bool b)) : Wt ((asB r ρ).bind f) Q X = False := by
  cases r with
  | d x => cases x <;> first | rfl | exact absurd rfl (h _)
  | _ => rfl
theorem w_andE : Wt (cAnd f g ρ) P X = Wt (f ρ) (kAndE g P X) X := Wt.bindC fun r ρ => by
  unfold kAndE
  split
  · rename_i b; cases b <;> rfl
  · rename_i z; exact asB_no fun b e => z b e
theorem kAndE_t : kAndE g P X (.d (.bool true)) ρ = Wt (g ρ) P X := by unfold kAndE; exact if_pos rfl
theorem kAndE_f : kAndE g P X (.d (.bool false)) ρ = P (.d (.bool false)) ρ := by unfold kAndE; exact if_neg (by decide)
theorem kAndE_b (z1 : b = true → Wt (g ρ) P X) (z2 : b = false → P (.d (.bool false)) ρ) : kAndE g P X (.d (.bool b)) ρ := by
  cases b
  · rw [kAndE_f]; exact z2 rfl
  · rw [kAndE_t]; exact z1 rfl
def kOrE (g : EF) (P : EPost) (X : XPost) : EPost := fun r ρ => match r with
  | .d (.bool b) => if b = true then P (.d (.bool true)) ρ else Wt (g ρ) P X
  | _ => False
theorem w_orE : Wt (cOr f g ρ) P X = Wt (f ρ) (kOrE g P X) X := Wt.bindC fun r ρ => by
  unfold kOrE
  split
  · rename_i b; cases b <;> rfl
  · rename_i z; exact asB_no fun b e => z b e
theorem kOrE_f : kOrE g P X (.d (.bool false)) ρ = Wt (g ρ) P X := by unfold kOrE; exact if_neg (by decide)
theorem kOrE_t : kOrE g P X (.d (.bool true)) ρ = P (.d (.bool true)) ρ := by unfold kOrE; exact if_pos rfl
theorem kOrE_b (z1 : b = false → Wt (g ρ) P X) (z2 : b = true → P (.d (.bool true)) ρ) : kOrE g P X (.d (.bool b)) ρ := by
  cases b
  · rw [kOrE_f]; exact z1 rfl
  · rw [kOrE_t]; exact z2 rfl
/-- the second looks only -/
def kBothE (op : Bool → Bool → Bool) (b : Bool) (P : EPost) (ρ : List R) : EPost := fun r ρ' => ∃ c, r = .d (.bool c) ∧ ρ' = ρ ∧ P (.d (.bool (op b c))) ρ
theorem kBothE_ok {op : Bool → Bool → Bool} {c : Bool} : kBothE op b P ρ (.d (.bool c)) ρ = P (.d (.bool (op b c))) ρ := propext ⟨fun ⟨_, e, _, z⟩ => by cases e; exact z, fun z => ⟨c, rfl, rfl, z⟩⟩
theorem kBothE_of {op : Bool → Bool → Bool} (z : Wt (g ρ) (kBothE op b P ρ) noX) : ∃ c, g ρ = .ok (.d (.bool c)) ρ ∧ P (.d (.bool (op b c))) ρ := by
  generalize g ρ = o at z
  cases o with
  | ok r ρ' => obtain ⟨c, rfl, rfl, z⟩ := z; exact ⟨c, rfl, z⟩
  | ex _ _ => exact z.elim
  | no => exact z.elim
theorem kAndE_j (z : Wt (g ρ) (kBothE and b P ρ) noX) : kAndE g P X (.d (.bool b)) ρ := by
  obtain ⟨c, e, z⟩ := kBothE_of z
  cases b
  · rw [kAndE_f]; exact z
  · rw [kAndE_t, e]; exact z
theorem kOrE_j (z : Wt (g ρ) (kBothE or b P ρ) noX) : kOrE g P X (.d (.bool b)) ρ := by
  obtain ⟨c, e, z⟩ := kBothE_of z
  cases b
  · rw [kOrE_f, e]; exact z
  · rw [kOrE_t]; exact z
def kNotE (P : EPost) : EPost := fun r ρ => match r with
  | .d (.bool b) => P (.d (.bool (!b))) ρ
  | _ => False
theorem w_notE : Wt (cNot f ρ) P X = Wt (f ρ) (kNotE P) X := Wt.bindC fun r ρ => by
  unfold kNotE
  split
  · rfl
  · rename_i z; exact asB_no fun b e => z b e
theorem kNotE_ok : kNotE P (.d (.bool b)) ρ = P (.d (.bool (!b))) ρ := (rfl)
/-- if-expressions -/
def kIf (f g : EF) (P : EPost) (X : XPost) : TPost := fun b ρ => if b = true then Wt (f ρ) P X else Wt (g ρ) P X
theorem w_if : Wt (cIf tt f g ρ) P X = Wt (tt ρ) (kIf f g P X) X := Wt.bindC fun b ρ => by cases b <;> rfl
theorem kIf_t : kIf f g P X true ρ = Wt (f ρ) P X := if_pos rfl
theorem kIf_f : kIf f g P X false ρ = Wt (g ρ) P X := if_neg (by decide)
theorem kIf_b (h1 : b = true → Wt (f ρ) P X) (h2 : b = false → Wt (g ρ) P X) : kIf f g P X b ρ := by
  cases b
  · rw [kIf_f]; exact h2 rfl
  · rw [kIf_t]; exact h1 rfl
theorem kIf_d {p : Prop} [Decidable p] (h1 : p → Wt (f ρ) P X) (h2 : ¬ p → Wt (g ρ) P X) : kIf f g P X (decide p) ρ :=
  kIf_b (fun e => h1 (of_decide_eq_true e)) (fun e => h2 (of_decide_eq_false e))
theorem kIf_n {p : Prop} [Decidable p] (h1 : ¬ p → Wt (f ρ) P X) (h2 : p → Wt (g ρ) P X) : kIf f g P X (!decide p) ρ :=
  kIf_b (fun e => h1 (by simpa using e)) (fun e => h2 (by simpa using e))
/-- a < b < c -/
def kInt (Q : Int → List R → Prop) : EPost := fun r ρ => match r with
  | .d (.int i) => Q i ρ
  | _ => False
theorem kInt_ok {Q : Int → List R → Prop} {n : Int} : kInt Q (.d (.int n)) ρ = Q n ρ := (rfl)
theorem asI_k {α : Type} {kk : Int → List R → Rs α} {Q : α → List R → Prop} : Wt (asI r ρ kk) Q X = kInt (fun i ρ => Wt (kk i ρ) Q X) r ρ := by
  cases r with
  | d x => cases x <;> rfl
  | _ => rfl
def kCh3 (p' : Int → Int → Bool) (j : Int) (P : EPost) : Int → List R → Prop := fun l ρ => P (.d (.bool (p' j l))) ρ
def kCh2 (p p' : Int → Int → Bool) (h : EF) (i : Int) (P : EPost) (X : XPost) : Int → List R → Prop := fun j ρ => if p i j = true then Wt (h ρ) (kInt (kCh3 p' j P)) X else P (.d (.bool false)) ρ
def kCh1 (p p' : Int → Int → Bool) (g h : EF) (P : EPost) (X : XPost) : Int → List R → Prop := fun i ρ => Wt (g ρ) (kInt (kCh2 p p' h i P X)) X
theorem w_chain {p p' : Int → Int → Bool} : Wt (cChain p p' f g h ρ) P X = Wt (f ρ) (kInt (kCh1 p p' g h P X)) X := Wt.bindC fun r ρ => by
  rw [asI_k]
  refine congrFun (congrFun (congrArg kInt (funext fun i => funext fun ρ => ?_)) r) ρ
  refine Wt.bindC fun r ρ => ?_
  rw [asI_k]
  refine congrFun (congrFun (congrArg kInt (funext fun j => funext fun ρ => ?_)) r) ρ
  unfold kCh2
  cases p i j
  · rfl
  · rw [if_pos rfl, if_pos rfl]
    refine Wt.bindC fun r ρ => ?_
    rw [asI_k]
    rfl
theorem kCh1_ok {p p' : Int → Int → Bool} {n : Int} : kCh1 p p' g h P X n ρ = Wt (g ρ) (kInt (kCh2 p p' h n P X)) X := (rfl)
/-- the three look only: the truth value of all -/
theorem kCh2_p {p p' : Int → Int → Bool} {n m l : Int} (e : h ρ = .ok (.d (.int l)) ρ) : kCh2 p p' h n P X m ρ = P (.d (.bool (p n m && p' m l))) ρ := by
  unfold kCh2
  rw [e]
  cases p n m <;> rfl
theorem kCh2_c {p p' : Int → Int → Bool} {n m l : Int} : kCh2 p p' (cC (.int l)) n P X m ρ = P (.d (.bool (p n m && p' m l))) ρ := kCh2_p rfl
def kChV (o : Option R) (i : Nat) (p p' : Int → Int → Bool) (n m : Int) (P : EPost) (ρ : List R) : Prop := if p n m = true then kVar o i (kInt (kCh3 p' m P)) ρ else P (.d (.bool false)) ρ
theorem kCh2_v {p p' : Int → Int → Bool} {n m : Int} : kCh2 p p' (cVar i) n P X m ρ = kChV ρ[i]? i p p' n m P ρ := by
  unfold kCh2 kChV
  rw [w_var]
theorem kChV_i {p p' : Int → Int → Bool} {n m l : Int} : kChV (some (.d (.int l))) i p p' n m P ρ = P (.d (.bool (p n m && p' m l))) ρ := by
  unfold kChV
  cases p n m <;> rfl
/-- displays -/
def rowR : List R → Option (List Int)
  | [] => some []
  | .d (.int i) :: rs => (rowR rs).map (i :: ·)
  | _ => none
theorem rowR_ok : ∀ {rs : List R} {ns : List Int}, rowR rs = some ns → allD rs = some (ns.map .int)
  | [], ns, e => by cases e; rfl
  | .d (.int i) :: rs, ns, e => by
    simp only [rowR] at e
    cases e1 : rowR rs with
    | none => rw [e1] at e; cases e
    | some ms =>
      rw [e1] at e; cases e
      simp [allD, rowR_ok e1]
def kTup (P : EPost) : OPost := fun hs ρ => kO (hdRs hs) fun rs => rs.length ≤ 1000 ∧ P (mkT rs) ρ
theorem le_kO {rs : List R} {q : R} : Wt (if rs.length ≤ 1000 then .ok q ρ else .no) P X = (rs.length ≤ 1000 ∧ P q ρ) := by
  split
  · rename_i h; exact propext ⟨fun z => ⟨h, z⟩, fun z => z.2⟩
  · rename_i h; exact propext ⟨fun z => z.elim, fun z => h z.1⟩
theorem w_tup : Wt (cTup os ρ) P X = Wt (cOps os ρ) (kTup P) X := Wt.bindC fun hs ρ => by
  unfold kTup
  cases hdRs hs with
  | none => rfl
  | some rs => exact le_kO
theorem kTup_ok : kTup P hs ρ = kO (hdRs hs) fun rs => rs.length ≤ 1000 ∧ P (mkT rs) ρ := (rfl)
def kLst (P : EPost) : OPost := fun hs ρ => kO (hdRs hs) fun rs => rs.length ≤ 1000 ∧ P (mkL rs) ρ
theorem w_lst : Wt (cLst os ρ) P X = Wt (cOps os ρ) (kLst P) X := Wt.bindC fun hs ρ => by
  unfold kLst
  cases hdRs hs with
  | none => rfl
  | some rs => exact le_kO
theorem kLst_ok : kLst P hs ρ = kO (hdRs hs) fun rs => rs.length ≤ 1000 ∧ P (mkL rs) ρ := (rfl)
theorem mkT2 {a b : Int} : mkT [.d (.int a), .d (.int b)] = .d (rowD [a, b]) := (rfl)
theorem mkT3 {a b c : Int} : mkT [.d (.int a), .d (.int b), .d (.int c)] = .d (rowD [a, b, c]) := (rfl)
theorem mkT5 {a b c d e : Int} : mkT [.d (.int a), .d (.int b), .d (.int c), .d (.int d), .d (.int e)] = .d (rowD [a, b, c, d, e]) := (rfl)
theorem mkT_d {ds : List PyData} (h : allD rs = some ds) : mkT rs = .d (.tuple ds) := by unfold mkT; rw [h]
theorem mkT_n (h : allD rs = none) : mkT rs = .tn rs := by unfold mkT; rw [h]
theorem mkL_d {ds : List PyData} (h : allD rs = some ds) : mkL rs = .ol ds := by unfold mkL; rw [h]
theorem mkL_n (h : allD rs = none) : mkL rs = .on rs := by unfold mkL; rw [h]
theorem allD_nil : allD [] = some [] := (rfl)
theorem allD_d : allD (.d x :: rs) = (allD rs).map (x :: ·) := (rfl)
theorem allD_ol : allD (.ol xs :: rs) = none := (rfl)
theorem allD_on : allD (.on rs' :: rs) = none := (rfl)
theorem allD_tn : allD (.tn rs' :: rs) = none := (rfl)
/-- frozen -/
def kFz (P : EPost) : EPost := fun r ρ => kO (toD r) fun x => P (.d x) ρ
theorem w_fz : Wt (cFz f ρ) P X = Wt (f ρ) (kFz P) X := Wt.bindC fun r ρ => by
  unfold kFz
  cases toD r <;> rfl
theorem kFz_ok : kFz P r ρ = kO (toD r) fun x => P (.d x) ρ := (rfl)
/-- calls -/
def kPut (hs : List Hd) (ρ : List R) (P : EPost) : R → List R → Prop := fun r rs => P r (putHs ρ hs rs)
def kPutX (hs : List Hd) (ρ : List R) (X : XPost) : XPost := fun x rs => X x (putHs ρ hs rs)
def kCall (g : GF) (P : EPost) (X : XPost) : OPost := fun hs ρ => kO (takeHs ρ hs) fun z => Wf (g z.1) (kPut hs z.2 P) (kPutX hs z.2 X)
theorem w_call {g : GF} : Wt (cCall g os ρ) P X = Wt (cOps os ρ) (kCall g P X) X := Wt.bindC fun hs ρ => by
  unfold kCall
  cases takeHs ρ hs with
  | none => rfl
  | some z =>
    obtain ⟨rs, ρ2⟩ := z
    show Wt (match g rs with | .ok r rs' => .ok r (putHs ρ2 hs rs') | .ex x rs' => .ex x (putHs ρ2 hs rs') | .no => .no) P X = Wf (g rs) _ _
    generalize g rs = o
    cases o <;> rfl
theorem kCall_ok {g : GF} : kCall g P X hs ρ = kO (takeHs ρ hs) fun z => Wf (g z.1) (kPut hs z.2 P) (kPutX hs z.2 X) := (rfl)
theorem kPut_ok : kPut hs ρ P r rs = P r (putHs ρ hs rs) := (rfl)
theorem kPutX_ok {x : Xc} : kPutX hs ρ X x rs = X x (putHs ρ hs rs) := (rfl)
/-- what is taken, slot by slot -/
def kTk (o : Option R) (i : Nat) (ρ : List R) (hs : List Hd) : Option (List R × List R) := match o with
  | some (.d x) => (takeHs ρ hs).map fun z => (.d x :: z.1, z.2)
  | some r => if isJ r = true then none else (takeHs (ρ.set i .junk) hs).map fun z => (r :: z.1, z.2)
  | none => none
theorem takeHs_s : takeHs ρ (.s i :: hs) = kTk ρ[i]? i ρ hs := by
  rw [takeHs.eq_3]
  cases ρ[i]? with
  | none => rfl
  | some r => cases r <;> rfl
theorem takeHs_t : takeHs ρ (.t r :: hs) = (takeHs ρ hs).map fun z => (r :: z.1, z.2) := (rfl)
theorem takeHs_n : takeHs ρ [] = some ([], ρ) := (rfl)
theorem kTk_d : kTk (some (.d x)) i ρ hs = (takeHs ρ hs).map fun z => (.d x :: z.1, z.2) := (rfl)
theorem kTk_ol : kTk (some (.ol xs)) i ρ hs = (takeHs (ρ.set i .junk) hs).map fun z => (.ol xs :: z.1, z.2) := (rfl)
theorem kTk_on : kTk (some (.on rs)) i ρ hs = (takeHs (ρ.set i .junk) hs).map fun z => (.on rs :: z.1, z.2) := (rfl)
theorem kTk_tn : kTk (some (.tn rs)) i ρ hs = (takeHs (ρ.set i .junk) hs).map fun z => (.tn rs :: z.1, z.2) := (rfl)
theorem kTk_dt {ks : List (NestedKey × PyData)} : kTk (some (.dt ks)) i ρ hs = (takeHs (ρ.set i .junk) hs).map fun z => (.dt ks :: z.1, z.2) := (rfl)
theorem kTk_dk {n : Nat} : kTk (some (.dk n rs)) i ρ hs = (takeHs (ρ.set i .junk) hs).map fun z => (.dk n rs :: z.1, z.2) := (rfl)
theorem kTk_ob {n : Nat} : kTk (some (.ob n rs)) i ρ hs = (takeHs (ρ.set i .junk) hs).map fun z => (.ob n rs :: z.1, z.2) := (rfl)
theorem putHs_s : putHs ρ (.s i :: hs) (r :: rs) = putHs (ρ.set i r) hs rs := (rfl)
theorem putHs_t : putHs ρ (.t q :: hs) (r :: rs) = putHs ρ hs rs := (rfl)
theorem putHs_n : putHs ρ [] rs = ρ := by cases rs <;> rfl
/-- a call that looks only -/
def kSc (ρ : List R) (P : EPost) : EPost := fun r _ => match r with
  | .d x => scalar x = true ∧ P (.d x) ρ
  | _ => False
theorem kSc_i {n : Int} {ρ' : List R} : kSc ρ P (.d (.int n)) ρ' = P (.d (.int n)) ρ := propext ⟨fun h => h.2, fun h => ⟨rfl, h⟩⟩
theorem kSc_b {ρ' : List R} : kSc ρ P (.d (.bool b)) ρ' = P (.d (.bool b)) ρ := propext ⟨fun h => h.2, fun h => ⟨rfl, h⟩⟩
def kPeek (g : GF) (P : EPost) : OPost := fun hs ρ => kO (lookD ρ hs) fun ds => Wf (g (ds.map .d)) (kSc ρ P) noX
theorem w_peek {g : GF} : Wt (cPeek g os ρ) P X = Wt (cOps os ρ) (kPeek g P) X := Wt.bindC fun hs ρ => by
  unfold kPeek
  cases lookD ρ hs with
  | none => rfl
  | some ds =>
    show Wt (match g (ds.map .d) with | .ok (.d x) _ => if scalar x = true then .ok (.d x) ρ else .no | _ => .no) P X = Wf (g (ds.map .d)) _ _
    generalize g (ds.map .d) = o
    cases o with
    | ok r rs =>
      cases r with
      | d x =>
        show Wt (if scalar x = true then .ok (.d x) ρ else .no) P X = (scalar x = true ∧ P (.d x) ρ)
        split
        · rename_i h; exact propext ⟨fun z => ⟨h, z⟩, fun z => z.2⟩
        · rename_i h; exact propext ⟨fun z => z.elim, fun z => h z.1⟩
      | _ => rfl
    | ex x rs => rfl
    | no => rfl
theorem kPeek_ok {g : GF} : kPeek g P hs ρ = kO (lookD ρ hs) fun ds => Wf (g (ds.map .d)) (kSc ρ P) noX := (rfl)
theorem lookD_n : lookD ρ [] = some [] := (rfl)
theorem lookD_t : lookD ρ (.t r :: hs) = (toD r).bind fun x => (lookD ρ hs).map (x :: ·) := (rfl)
theorem lookD_s : lookD ρ (.s i :: hs) = ((ρ[i]?).bind toD).bind fun x => (lookD ρ hs).map (x :: ·) := (rfl)
/-- slices -/
def kSl1 (i : Nat) (l : Option Int) (P : EPost) : Option Int → List R → Prop := fun u ρ => kO (((ρ[i]?).bind vw).bind (cutD l u)) fun r => P r ρ
def kSl0 (i : Nat) (hi : Option EF) (P : EPost) (X : XPost) : Option Int → List R → Prop := fun l ρ => Wt (cPart hi ρ) (kSl1 i l P) X
theorem w_slice {lo hi : Option EF} : Wt (cSlice i lo hi ρ) P X = kSl ρ[i]? (Wt (cPart lo ρ) (kSl0 i hi P X) X) := by
  unfold cSlice
  cases ρ[i]? with
  | none => rfl
  | some r =>
    unfold kSl
    simp only
    cases isJ r with
    | true => exact propext ⟨fun h => h.elim, fun h => by cases h.1⟩
    | false =>
      refine Eq.trans (Wt.bindC (P := kSl0 i hi P X) fun l ρ => Wt.bindC fun u ρ => ?_) (propext ⟨fun h => ⟨rfl, h⟩, fun h => h.2⟩)
      unfold kSl1
      split
      · rename_i e; rw [e]; rfl
      · rename_i e; rw [e]; rfl
theorem kSl0_ok {hi : Option EF} {l : Option Int} : kSl0 i hi P X l ρ = Wt (cPart hi ρ) (kSl1 i l P) X := (rfl)
theorem kSl1_ok {l u : Option Int} : kSl1 i l P u ρ = kO (((ρ[i]?).bind vw).bind (cutD l u)) fun r => P r ρ := (rfl)
theorem w_part0 {Q : Option Int → List R → Prop} : Wt (cPart none ρ) Q X = Q none ρ := (rfl)
def kPart (Q : Option Int → List R → Prop) : Int → List R → Prop := fun i ρ => Q (some i) ρ
theorem w_part1 {Q : Option Int → List R → Prop} : Wt (cPart (some f) ρ) Q X = Wt (f ρ) (kInt (kPart Q)) X := Wt.bindC fun r ρ => by
  cases r with
  | d x => cases x <;> rfl
  | _ => rfl
theorem kPart_ok {Q : Option Int → List R → Prop} {n : Int} : kPart Q n ρ = Q (some n) ρ := (rfl)
def kLs (Q : List PyData → List R → Prop) : EPost := fun r ρ => match toD r with
  | some (.list ds) => Q ds ρ
  | _ => False
theorem kLs_d {Q : List PyData → List R → Prop} : kLs Q (.d (.list xs)) ρ = Q xs ρ := (rfl)
theorem kLs_ol {Q : List PyData → List R → Prop} : kLs Q (.ol xs) ρ = Q xs ρ := (rfl)
theorem asL_k {α : Type} {kk : List PyData → List R → Rs α} {Q : α → List R → Prop} : Wt (asL r ρ kk) Q X = kLs (fun ds ρ => Wt (kk ds ρ) Q X) r ρ := by
  unfold asL kLs
  rcases toD r with _ | x
  · rfl
  · cases x <;> rfl
def kRev (P : EPost) : List PyData → List R → Prop := fun ds ρ => P (.ol ds.reverse) ρ
theorem w_revD : Wt (cRev f ρ) P X = Wt (f ρ) (kLs (kRev P)) X := Wt.bindC fun r ρ => asL_k
theorem kRev_ok : kRev P xs ρ = P (.ol xs.reverse) ρ := (rfl)
def kRep1 (xs : List PyData) (P : EPost) : Int → List R → Prop := fun k ρ => (-(2 ^ 63) ≤ k ∧ k < 2 ^ 63 ∧ xs.length * k.toNat ≤ 100000) ∧ P (.ol (List.replicate k.toNat xs).flatten) ρ
def kRep (g : EF) (P : EPost) (X : XPost) : EPost := fun r ρ => match r with
  | .ol xs => Wt (g ρ) (kInt (kRep1 xs P)) X
  | _ => False
theorem w_rep : Wt (cRep f g ρ) P X = Wt (f ρ) (kRep g P X) X := Wt.bindC fun r ρ => by
  cases r with
  | ol xs =>
    refine Wt.bindC fun q ρ => ?_
    rw [asI_k]
    refine congrFun (congrFun (congrArg kInt (funext fun k => funext fun ρ => ?_)) q) ρ
    unfold kRep1
    split
    · rename_i h; exact propext ⟨fun z => ⟨h, z⟩, fun z => z.2⟩
    · rename_i h; exact propext ⟨fun z => z.elim, fun z => h z.1⟩
  | _ => rfl
theorem kRep_ok : kRep g P X (.ol xs) ρ = Wt (g ρ) (kInt (kRep1 xs P)) X := (rfl)
theorem kRep1_ok {n : Int} (l : -(2 ^ 63) ≤ n ∧ n < 2 ^ 63 ∧ xs.length * n.toNat ≤ 100000) : kRep1 xs P n ρ = P (.ol (List.replicate n.toNat xs).flatten) ρ := propext ⟨fun z => z.2, fun z => ⟨l, z⟩⟩
def kNil (o : Option PyData) (neg : Bool) (P : EPost) (ρ : List R) : Prop := match o with
  | some (.list xs) => SeqAt.shaped (.list xs) = true ∧ P (.d (.bool (xs.isEmpty != neg))) ρ
  | _ => False
theorem w_nil {neg : Bool} : Wt (cNil neg i π ρ) P X = kNil ((getP ρ i π).bind vw) neg P ρ := by
  unfold cNil kNil
  rcases (getP ρ i π).bind vw with _ | x
  · rfl
  · cases x with
    | list xs =>
      by_cases h : SeqAt.shaped (.list xs) = true
      · show Wt (if SeqAt.shaped (.list xs) = true then .ok (.d (.bool (xs.isEmpty != neg))) ρ else .no) P X = _
        rw [if_pos h]
        exact propext ⟨fun z => ⟨h, z⟩, fun z => z.2⟩
      · show Wt (if SeqAt.shaped (.list xs) = true then .ok (.d (.bool (xs.isEmpty != neg))) ρ else .no) P X = _
        rw [if_neg h]
        exact propext ⟨fun z => z.elim, fun z => h z.1⟩
    | _ => rfl
theorem kNil_ok {neg : Bool} (hs : SeqAt.shaped (.list xs) = true) : kNil (some (.list xs)) neg P ρ = P (.d (.bool (xs.isEmpty != neg))) ρ := propext ⟨fun z => z.2, fun z => ⟨hs, z⟩⟩
theorem w_dict0 : Wt (cDict0 ρ) P X = P (.dt []) ρ := (rfl)
/-- methods -/
def kMut1 (o : Option R) (rs : Option (List R)) (i : Nat) (π : List (Sx × Nat)) (m : R → List R → Option (R × R)) (P : EPost) (ρ : List R) : Prop := kSl o (kO o fun r1 => kO rs fun rs => kO (m r1 rs) fun z => P z.2 (setP ρ i π z.1))
def kMut (i : Nat) (π : List (Sx × Nat)) (m : R → List R → Option (R × R)) (P : EPost) : OPost := fun hs ρ => kSl (getP ρ i π) (kO (getP ρ i π) fun r1 => kO (hdArgs ρ hs) fun rs => kO (m r1 rs) fun z => P z.2 (setP ρ i π z.1))
def kMutI (o : Option R) (ty : R → Bool) (π : List (Sx × Nat)) (os : List Op) (Q : Prop) : Prop := match o with
  | some r => ty r = true ∧ (π = [] ∨ os.all Op.quiet = true) ∧ Q
  | none => False
theorem w_mut {ty : R → Bool} {m : R → List R → Option (R × R)} : Wt (cMut i π ty m os ρ) P X = kMutI (getP ρ i π) ty π os (Wt (cOps os ρ) (kMut i π m P) X) := by
  unfold cMut kMutI
  cases getP ρ i π with
  | none => rfl
  | some r =>
    simp only
    split
    · rename_i h
      refine Eq.trans (Wt.bindC (P := kMut i π m P) fun hs ρ => ?_) (propext ⟨fun z => ⟨h.1, h.2, z⟩, fun z => z.2.2⟩)
      unfold kMut kSl
      cases getP ρ i π with
      | none => rfl
      | some r1 =>
        cases e2 : hdArgs ρ hs with
        | none => exact propext ⟨fun z => z.elim, fun z => z.2.elim⟩
        | some rs =>
          simp only [kO]
          cases isJ r1 with
          | true => exact propext ⟨fun z => z.elim, fun z => by cases z.1⟩
          | false =>
            cases e3 : m r1 rs with
            | none => exact propext ⟨fun z => z.elim, fun z => z.2.elim⟩
            | some z => exact propext ⟨fun z => ⟨rfl, z⟩, fun z => z.2⟩
    · rename_i h
      exact propext ⟨fun z => z.elim, fun z => h ⟨z.1, z.2.1⟩⟩
theorem kMutI_ok {ty : R → Bool} {Q : Prop} (h : ty r = true) (hq : (π.isEmpty || os.all Op.quiet) = true) : kMutI (some r) ty π os Q = Q := propext ⟨fun z => z.2.2, fun z => ⟨h, by
  rw [Bool.or_eq_true] at hq
  rcases hq with hq | hq
  · exact .inl (by cases π with | nil => rfl | cons _ _ => cases hq)
  · exact .inr hq, z⟩⟩
theorem kMut_ok {m : R → List R → Option (R × R)} : kMut i π m P hs ρ = kSl (getP ρ i π) (kO (getP ρ i π) fun r1 => kO (hdArgs ρ hs) fun rs => kO (m r1 rs) fun z => P z.2 (setP ρ i π z.1)) := (rfl)
def hdA (o : Option R) (q : Option (List R)) : Option (List R) := match o with
  | some (.d x) => q.map (.d x :: ·)
  | _ => none
theorem hdA_d {q : Option (List R)} : hdA (some (.d x)) q = q.map (.d x :: ·) := (rfl)
theorem hdArgs_n : hdArgs ρ [] = some [] := (rfl)
theorem hdArgs_t : hdArgs ρ (.t r :: hs) = (hdArgs ρ hs).map (r :: ·) := (rfl)
theorem hdArgs_s : hdArgs ρ (.s i :: hs) = hdA ρ[i]? (hdArgs ρ hs) := by
  rw [hdArgs.eq_3]
  cases ρ[i]? with
  | none => rfl
  | some r => cases r <;> rfl
def kMT1 (m : R → List R → Option (R × R)) (r : R) (P : EPost) : OPost := fun hs ρ => kO (hdArgs ρ hs) fun rs => kO (m r rs) fun z => P z.2 ρ
def kMT0 (ty : R → Bool) (m : R → List R → Option (R × R)) (os : List Op) (P : EPost) (X : XPost) : EPost := fun r ρ => ty r = true ∧ Wt (cOps os ρ) (kMT1 m r P) X
theorem w_mutT {ty : R → Bool} {m : R → List R → Option (R × R)} : Wt (cMutT f ty m os ρ) P X = Wt (f ρ) (kMT0 ty m os P X) X := Wt.bindC fun r ρ => by
  unfold kMT0
  split
  · rename_i h
    refine Eq.trans (Wt.bindC (P := kMT1 m r P) fun hs ρ => ?_) (propext ⟨fun z => ⟨h, z⟩, fun z => z.2⟩)
    unfold kMT1
    cases hdArgs ρ hs with
    | none => rfl
    | some rs =>
      simp only [kO]
      cases m r rs <;> rfl
  · rename_i h
    exact propext ⟨fun z => z.elim, fun z => h z.1⟩
theorem kMT0_ok {ty : R → Bool} {m : R → List R → Option (R × R)} (t : ty r = true) : kMT0 ty m os P X r ρ = Wt (cOps os ρ) (kMT1 m r P) X := propext ⟨fun z => z.2, fun z => ⟨t, z⟩⟩
theorem kMT1_ok {m : R → List R → Option (R × R)} : kMT1 m r P hs ρ = kO (hdArgs ρ hs) fun rs => kO (m r rs) fun z => P z.2 ρ := (rfl)
/-- an object's methods -/
def kOb (o : Option R) (n : Nat) (Q : Prop) : Prop := match o with
  | some (.ob m _) => m = n ∧ Q
  | _ => False
theorem w_meth {n : Nat} {g : GF} : Wt (cMeth n i g os ρ) P X = kOb ρ[i]? n (Wt (cCall g (.s i :: os) ρ) P X) := by
  unfold cMeth kOb
  cases ρ[i]? with
  | none => rfl
  | some r =>
    cases r with
    | ob m fs =>
      simp only
      split
      · rename_i h; exact propext ⟨fun z => ⟨h, z⟩, fun z => z.2⟩
      · rename_i h; exact propext ⟨fun z => z.elim, fun z => h z.1⟩
    | _ => rfl
theorem kOb_ok {n : Nat} {Q : Prop} : kOb (some (.ob n rs)) n Q = Q := propext ⟨fun z => z.2, fun z => ⟨rfl, z⟩⟩
/-- paths -/
theorem getP_n : getP ρ i [] = ρ[i]? := (rfl)
theorem getP_c {n : Sx} {l : Nat} : getP ρ i ((n, l) :: π) = (getP ρ i π).bind fun r => (kids n r).bind fun rs => rs[l]? := (rfl)
theorem setP_n : setP ρ i [] q = ρ.set i q := (rfl)
def setK (o : Option R) (n : Sx) (l : Nat) (ρ : List R) (i : Nat) (π : List (Sx × Nat)) (q : R) : List R := match o with
  | some r => (match kids n r with
    | some rs => setP ρ i π (reKid r (rs.set l q))
    | none => ρ)
  | none => ρ
theorem setP_c {n : Sx} {l : Nat} : setP ρ i ((n, l) :: π) q = setK (getP ρ i π) n l ρ i π q := (rfl)
theorem setK_on {l : Nat} : setK (some (.on rs)) .ix l ρ i π q = setP ρ i π (.on (rs.set l q)) := (rfl)
theorem setK_tn {l : Nat} : setK (some (.tn rs)) .ix l ρ i π q = setP ρ i π (.tn (rs.set l q)) := (rfl)
theorem setK_dk {l n : Nat} : setK (some (.dk n rs)) (.ky n) l ρ i π q = setP ρ i π (.dk n (rs.set l q)) := by
  simp [setK, kids, reKid]
theorem setK_ob {l n : Nat} : setK (some (.ob n rs)) (.fd n) l ρ i π q = setP ρ i π (.ob n (rs.set l q)) := by
  simp [setK, kids, reKid]
theorem kids_on : kids .ix (.on rs) = some rs := (rfl)
theorem kids_tn : kids .ix (.tn rs) = some rs := (rfl)
theorem kids_dk {n : Nat} : kids (.ky n) (.dk n rs) = some rs := if_pos rfl
theorem kids_ob {n : Nat} : kids (.fd n) (.ob n rs) = some rs := if_pos rfl
end
/-! ### stores -/
section
variable {f : EF} {P : SPost} {X : XPost} {ρ ρ' : List R} {r : R} {i : Nat} {π : List (Sx × Nat)} {x : PyData}
def kStore (i : Nat) (π : List (Sx × Nat)) (ko : Op) (st : R → PyData → R → Option R) (P : SPost) : EPost := fun r ρ => kSl (getP ρ i π) (kO (getP ρ i π) fun r1 => kO (quietView ρ ko) fun x => kO (st r1 x r) fun r2 => P .nx (setP ρ i π r2))
theorem w_store {ko : Op} {st : R → PyData → R → Option R} : Wt (cStore i π ko st f ρ) P X = Wt (f ρ) (kStore i π ko st P) X := Wt.bindC fun r ρ => by
  unfold kStore kSl
  cases getP ρ i π with
  | none => rfl
  | some r1 =>
    cases quietView ρ ko with
    | none => exact propext ⟨fun z => z.elim, fun z => z.2.elim⟩
    | some x =>
      simp only [kO]
      cases isJ r1 with
      | true => exact propext ⟨fun z => z.elim, fun z => by cases z.1⟩
      | false =>
        cases st r1 x r with
        | none => exact propext ⟨fun z => z.elim, fun z => z.2.elim⟩
        | some r2 => exact propext ⟨fun z => ⟨rfl, z⟩, fun z => z.2⟩
theorem kStore_ok {ko : Op} {st : R → PyData → R → Option R} : kStore i π ko st P r ρ = kSl (getP ρ i π) (kO (getP ρ i π) fun r1 => kO (quietView ρ ko) fun x => kO (st r1 x r) fun r2 => P .nx (setP ρ i π r2)) := (rfl)
theorem qv_c : quietView ρ (.c x) = some x := (rfl)
theorem qv_s : quietView ρ (.s i) = (ρ[i]?).bind vw := (rfl)
theorem qv_p : quietView ρ (.p i π) = (getP ρ i π).bind vw := (rfl)
end
/-! ### tests -/
section
variable {f : EF} {t u : TF} {P : TPost} {X : XPost} {ρ : List R} {b c : Bool}
def kTb (P : TPost) : EPost := fun r ρ => match r with
  | .d (.bool b) => P b ρ
  | _ => False
theorem w_tb : Wt (cTb f ρ) P X = Wt (f ρ) (kTb P) X := Wt.bindC fun r ρ => by
  cases r with
  | d x => cases x <;> rfl
  | _ => rfl
theorem kTb_ok : kTb P (.d (.bool b)) ρ = P b ρ := (rfl)
def kAnd (u : TF) (P : TPost) (X : XPost) : TPost := fun b ρ => if b = true then Wt (u ρ) P X else P false ρ
theorem w_and : Wt (fAnd t u ρ) P X = Wt (t ρ) (kAnd u P X) X := Wt.bindC fun b ρ => by cases b <;> rfl
theorem kAnd_t : kAnd u P X true ρ = Wt (u ρ) P X := if_pos rfl
theorem kAnd_f : kAnd u P X false ρ = P false ρ := if_neg (by decide)
theorem kAnd_b (h1 : b = true → Wt (u ρ) P X) (h2 : b = false → P false ρ) : kAnd u P X b ρ := by
  cases b
  · rw [kAnd_f]; exact h2 rfl
  · rw [kAnd_t]; exact h1 rfl
theorem kAnd_d {p : Prop} [Decidable p] (h1 : p → Wt (u ρ) P X) (h2 : ¬ p → P false ρ) : kAnd u P X (decide p) ρ :=
  kAnd_b (fun e => h1 (of_decide_eq_true e)) (fun e => h2 (of_decide_eq_false e))
/-- the second looks only -/
def kBoth (op : Bool → Bool → Bool) (b : Bool) (P : TPost) (ρ : List R) : TPost := fun c ρ' => ρ' = ρ ∧ P (op b c) ρ
theorem kBoth_ok {op : Bool → Bool → Bool} : kBoth op b P ρ c ρ = P (op b c) ρ := propext ⟨fun z => z.2, fun z => ⟨rfl, z⟩⟩
theorem kBoth_of {op : Bool → Bool → Bool} (z : Wt (u ρ) (kBoth op b P ρ) noX) : ∃ c, u ρ = .ok c ρ ∧ P (op b c) ρ := by
  generalize u ρ = o at z
  cases o with
  | ok c ρ' => obtain ⟨rfl, z⟩ := z; exact ⟨c, rfl, z⟩
  | ex _ _ => exact z.elim
  | no => exact z.elim
theorem kAnd_j (z : Wt (u ρ) (kBoth and b P ρ) noX) : kAnd u P X b ρ := by
  obtain ⟨c, e, z⟩ := kBoth_of z
  cases b
  · rw [kAnd_f]; exact z
  · rw [kAnd_t, e]; exact z
def kOr (u : TF) (P : TPost) (X : XPost) : TPost := fun b ρ => if b = true then P true ρ else Wt (u ρ) P X
theorem w_or : Wt (fOr t u ρ) P X = Wt (t ρ) (kOr u P X) X := Wt.bindC fun b ρ => by cases b <;> rfl
theorem kOr_t : kOr u P X true ρ = P true ρ := if_pos rfl
theorem kOr_f : kOr u P X false ρ = Wt (u ρ) P X := if_neg (by decide)
theorem kOr_b (h1 : b = true → P true ρ) (h2 : b = false → Wt (u ρ) P X) : kOr u P X b ρ := by
  cases b
  · rw [kOr_f]; exact h2 rfl
  · rw [kOr_t]; exact h1 rfl
theorem kOr_d {p : Prop} [Decidable p] (h1 : p → P true ρ) (h2 : ¬ p → Wt (u ρ) P X) : kOr u P X (decide p) ρ :=
  kOr_b (fun e => h1 (of_decide_eq_true e)) (fun e => h2 (of_decide_eq_false e))
theorem kOr_j (z : Wt (u ρ) (kBoth or b P ρ) noX) : kOr u P X b ρ := by
  obtain ⟨c, e, z⟩ := kBoth_of z
  cases b
  · rw [kOr_f, e]; exact z
  · rw [kOr_t]; exact z
def kNot (P : TPost) : TPost := fun b ρ => P (!b) ρ
theorem w_not : Wt (fNot t ρ) P X = Wt (t ρ) (kNot P) X := Wt.bindC fun b ρ => rfl
theorem kNot_ok : kNot P b ρ = P (!b) ρ := (rfl)
theorem w_yes : Wt (fYes ρ) P X = P true ρ := (rfl)
end
/-! ### loops -/
section
variable {src : RF} {g : GT} {s : SF} {t : TF} {P : SPost} {X : XPost} {ρ ρ' : List R} {ds : List PyData} {f : EF} {n : Nat} {os : List Op} {hs : List Hd} {xs : List PyData}
abbrev RPost := List PyData → List R → Prop
def kFor (g : GT) (s : SF) (P : SPost) (X : XPost) : RPost := fun ds ρ => Wt (forL g s ds ρ) P X
theorem w_for : Wt (cFor src g s ρ) P X = Wt (src ρ) (kFor g s P X) X := Wt.bindC fun _ _ => rfl
variable {Q : RPost}
theorem w_sList : Wt (sList f ρ) Q X = Wt (f ρ) (kLs Q) X := Wt.bindC fun r ρ => asL_k
def kTs (Q : RPost) : EPost := fun r ρ => match toD r with
  | some (.tuple ds) => Q ds ρ
  | _ => False
theorem kTs_d : kTs Q (.d (.tuple xs)) ρ = Q xs ρ := (rfl)
theorem w_sTup : Wt (sTup f ρ) Q X = Wt (f ρ) (kTs Q) X := Wt.bindC fun r ρ => by
  unfold asTu kTs
  rcases toD r with _ | x
  · rfl
  · cases x <;> rfl
def kStrS (Q : RPost) : EPost := fun r ρ => match r with
  | .d (.str a) => Q (a.cps.toList.map fun k => .str ⟨#[k]⟩) ρ
  | _ => False
theorem w_sStr : Wt (sStr f ρ) Q X = Wt (f ρ) (kStrS Q) X := Wt.bindC fun r ρ => by
  cases r with
  | d x => cases x <;> rfl
  | _ => rfl
theorem kStrS_ok {a : Str} : kStrS Q (.d (.str a)) ρ = Q (a.cps.toList.map fun k => .str ⟨#[k]⟩) ρ := (rfl)
def kRng (ro : List PyData → Option (Int × Nat)) (Q : RPost) : OPost := fun hs ρ => kO ((hviews ρ hs).bind ro) fun z => Q (rngD z.1 z.2) ρ
theorem w_sRng {ro : List PyData → Option (Int × Nat)} : Wt (sRng ro os ρ) Q X = Wt (cOps os ρ) (kRng ro Q) X := Wt.bindC fun hs ρ => by
  unfold kRng
  split
  · rename_i e; rw [e]; rfl
  · rename_i e; rw [e]; rfl
theorem kRng_ok {ro : List PyData → Option (Int × Nat)} : kRng ro Q hs ρ = kO ((hviews ρ hs).bind ro) fun z => Q (rngD z.1 z.2) ρ := (rfl)
theorem rng1_i {m : Int} (hm : -1000000 ≤ m ∧ m < 1000000) : rng1 [.int m] = some (0, m.toNat) := if_pos (by omega)
theorem rng2_i {l m : Int} (hl : -1000000 ≤ l ∧ l < 1000000) (hm : -1000000 ≤ m ∧ m < 1000000) : rng2 [.int l, .int m] = some (l, (m - l).toNat) := if_pos (by omega)
def kZip (Q : RPost) : OPost := fun hs ρ => match (hdRs hs).bind toDs with
  | some [.list xs, .list ys] => Q (List.zipWith (fun x y => .tuple [x, y]) xs ys) ρ
  | _ => False
theorem w_sZip : Wt (sZip os ρ) Q X = Wt (cOps os ρ) (kZip Q) X := Wt.bindC fun hs ρ => by
  unfold kZip
  rcases (hdRs hs).bind toDs with _ | (_ | ⟨x, _ | ⟨y, _ | ⟨z, l⟩⟩⟩)
  · rfl
  · rfl
  · cases x <;> rfl
  · cases x with
    | list xs => cases y <;> rfl
    | _ => rfl
  · cases x with
    | list xs => cases y <;> rfl
    | _ => rfl
/-- a round behind: J for the next, or the end -/
def kBody (J : List R → Prop) (P : SPost) : SPost := fun f ρ => match f with
  | .nx => J ρ
  | .ct => J ρ
  | .bk => P .nx ρ
  | .rt r => P (.rt r) ρ
theorem kBody_nx {J : List R → Prop} : kBody J P .nx ρ = J ρ := (rfl)
theorem kBody_ct {J : List R → Prop} : kBody J P .ct ρ = J ρ := (rfl)
theorem kBody_bk {J : List R → Prop} : kBody J P .bk ρ = P .nx ρ := (rfl)
theorem kBody_rt {J : List R → Prop} {r : R} : kBody J P (.rt r) ρ = P (.rt r) ρ := (rfl)
theorem forL_w (J : Nat → List R → Prop) : ∀ {ds : List PyData} {i : Nat} {ρ : List R}, J i ρ → (∀ k d ρ, ds[k]? = some d → J (i + k) ρ → kO (g (.d d) ρ) fun ρ1 => Wt (s ρ1) (kBody (J (i + k + 1)) P) X) → (∀ ρ, J (i + ds.length) ρ → P .nx ρ) → Wt (forL g s ds ρ) P X
  | [], i, ρ, h, _, e => e ρ h
  | d :: ds, i, ρ, h, f, e => by
    obtain ⟨ρ1, e1, w⟩ := kO_ex (f 0 d ρ rfl h)
    rw [forL.eq_2]
    simp only [e1]
    refine Wt.bind (w.mono fun fl ρ2 z => ?_)
    have go : J (i + 1) ρ2 → Wt (forL g s ds ρ2) P X := fun h2 => forL_w J (ds := ds) (i := i + 1) (ρ := ρ2) h2 (fun k d' ρ hk hJ => by
      have := f (k + 1) d' ρ (by simpa using hk) (by rw [show i + (k + 1) = i + 1 + k by omega]; exact hJ)
      rw [show i + (k + 1) + 1 = i + 1 + k + 1 by omega] at this
      exact this) (fun ρ hJ => e ρ (by rw [List.length_cons, show i + (ds.length + 1) = i + 1 + ds.length by omega]; exact hJ))
    cases fl with
    | nx => exact go z
    | ct => exact go z
    | bk => exact z
    | rt r => exact z
theorem kFor_w (J : Nat → List R → Prop) (h : J 0 ρ) (f : ∀ k d ρ, ds[k]? = some d → J k ρ → kO (g (.d d) ρ) fun ρ1 => Wt (s ρ1) (kBody (J (k + 1)) P) X) (e : ∀ ρ, J ds.length ρ → P .nx ρ) : kFor g s P X ds ρ :=
  forL_w J (i := 0) h (fun k d ρ hk hJ => by rw [Nat.zero_add] at hJ ⊢; exact f k d ρ hk hJ) (fun ρ hJ => e ρ (by rw [Nat.zero_add] at hJ; exact hJ))
/-- over what stands for xs -/
theorem kFor_m {α : Type} {enc : α → PyData} {as : List α} (J : Nat → List R → Prop) (h : J 0 ρ) (f : ∀ k a ρ, as[k]? = some a → J k ρ → kO (g (.d (enc a)) ρ) fun ρ1 => Wt (s ρ1) (kBody (J (k + 1)) P) X) (e : ∀ ρ, J as.length ρ → P .nx ρ) : kFor g s P X (as.map enc) ρ :=
  kFor_w J h (fun k d ρ hk hJ => by
    rw [List.getElem?_map] at hk
    cases e1 : as[k]? with
    | none => rw [e1] at hk; cases hk
    | some a => rw [e1] at hk; cases hk; exact f k a ρ e1 hJ) (fun ρ hJ => e ρ (by rw [List.length_map] at hJ; exact hJ))
/-- over a range -/
theorem kFor_r {lo : Int} (J : Nat → List R → Prop) (h : J 0 ρ) (f : ∀ k ρ, k < n → J k ρ → kO (g (.d (.int (lo + k))) ρ) fun ρ1 => Wt (s ρ1) (kBody (J (k + 1)) P) X) (e : ∀ ρ, J n ρ → P .nx ρ) : kFor g s P X (rngD lo n) ρ := by
  unfold rngD
  refine kFor_m J h (fun k a ρ hk hJ => ?_) (fun ρ hJ => e ρ (by rw [List.length_range] at hJ; exact hJ))
  have hn := (List.getElem?_eq_some_iff.mp hk).1
  rw [List.length_range] at hn
  rw [List.getElem?_range hn] at hk
  cases hk
  exact f k ρ hn hJ
theorem kFor_r0 (J : Nat → List R → Prop) (h : J 0 ρ) (f : ∀ (k : Nat) ρ, k < n → J k ρ → kO (g (.d (.int (k : Int))) ρ) fun ρ1 => Wt (s ρ1) (kBody (J (k + 1)) P) X) (e : ∀ ρ, J n ρ → P .nx ρ) : kFor g s P X (rngD 0 n) ρ :=
  kFor_r J h (fun k ρ hk hJ => by rw [Int.zero_add]; exact f k ρ hk hJ) e
/-- while, by a measure -/
theorem while_w (J : Nat → List R → Prop) : ∀ {n : Nat} {ρ : List R}, J n ρ → (∀ m ρ, J m ρ → ∃ m', m = m' + 1 ∧ Wt (t ρ) (fun b ρ1 => if b = true then Wt (s ρ1) (kBody (J m') P) X else P .nx ρ1) X) → Wt (cWhile t s n ρ) P X
  | 0, ρ, h, f => by
    obtain ⟨m', e, _⟩ := f 0 ρ h
    cases e
  | n + 1, ρ, h, f => by
    obtain ⟨m', e, w⟩ := f _ ρ h
    cases e
    rw [cWhile.eq_2]
    refine Wt.bind (w.mono fun b ρ1 z => ?_)
    cases b
    · exact z
    · rw [if_pos rfl]
      rw [if_pos rfl] at z
      refine Wt.bind (z.mono fun fl ρ2 z => ?_)
      cases fl with
      | nx => exact while_w J z f
      | ct => exact while_w J z f
      | bk => exact z
      | rt r => exact z
end
/-! ### comprehensions -/
section
variable {src : RF} {g : GT} {t : TF} {f : EF} {own : List Nat} {P : EPost} {X : XPost} {ρ ρ' B : List R} {ds : List PyData}
def kComp (own : List Nat) (g : GT) (t : TF) (f : EF) (P : EPost) : RPost := fun ds ρ => own.all (fun i => slotOk ρ[i]?) = true ∧ Wt (compL g t f own ds [] (wipeR ρ own)) (fun xs ρ2 => P (.ol xs) (backR ρ (wipeR ρ2 own) own)) noX
theorem compL_noex : ∀ {ds acc : List PyData} {ρ : List R} {x : Xc} {ρ' : List R}, compL g t f own ds acc ρ ≠ .ex x ρ'
  | [], acc, ρ, x, ρ', e => by cases e
  | d :: ds, acc, ρ, x, ρ', e => by
    rw [compL.eq_2] at e
    cases e1 : g (.d d) (wipeR ρ own) with
    | none => rw [e1] at e; cases e
    | some ρ1 =>
      rw [e1] at e
      simp only at e
      cases e2 : t ρ1 with
      | no => rw [e2] at e; cases e
      | ex y ρ2 => rw [e2] at e; cases e
      | ok b ρ2 =>
        rw [e2] at e
        simp only [noEx, Rs.bind] at e
        cases b
        · exact compL_noex e
        · simp only [if_true] at e
          cases e3 : f ρ2 with
          | no => rw [e3] at e; cases e
          | ex y ρ3 => rw [e3] at e; cases e
          | ok r ρ3 =>
            rw [e3] at e
            simp only at e
            split at e
            · split at e
              · exact compL_noex e
              · cases e
            · cases e
theorem w_comp : Wt (cComp src own g t f ρ) P X = Wt (src ρ) (kComp own g t f P) X := Wt.bindC fun ds ρ => by
  unfold kComp
  split
  · rename_i h
    rw [Wt.bindE]
    generalize e : compL g t f own ds [] (wipeR ρ own) = o
    cases o with
    | ok a ρ => exact propext ⟨fun z => ⟨h, z⟩, fun z => z.2⟩
    | ex x ρ => exact absurd e compL_noex
    | no => exact propext ⟨fun z => z.elim, fun z => z.2.elim⟩
  · rename_i h
    exact propext ⟨fun z => z.elim, fun z => h z.1⟩
theorem noEx_w {α : Type} {o : Rs α} {P : α → List R → Prop} (h : Wt o P noX) : Wt (noEx o) P noX := by
  cases o <;> exact h
/-- a round: the state behind; what is told -/
def kCE (own : List Nat) (J : PyData → List R → Prop) : EPost := fun r ρ => ∃ x, toD r = some x ∧ J x (wipeR ρ own)
theorem kCE_ok {J : PyData → List R → Prop} {r : R} {x : PyData} (e : toD r = some x) (e1 : wipeR ρ own = ρ') (z : J x ρ') : kCE own J r ρ := ⟨x, e, by rw [e1]; exact z⟩
theorem kCE_d {J : PyData → List R → Prop} {x : PyData} : kCE own J (.d x) ρ = J x (wipeR ρ own) := propext ⟨fun ⟨y, e, z⟩ => by cases e; exact z, fun z => ⟨x, rfl, z⟩⟩
theorem kCE_ol {J : PyData → List R → Prop} {xs : List PyData} : kCE own J (.ol xs) ρ = J (.list xs) (wipeR ρ own) := propext ⟨fun ⟨y, e, z⟩ => by cases e; exact z, fun z => ⟨.list xs, rfl, z⟩⟩
theorem wipeR_n : wipeR ρ [] = ρ := (rfl)
theorem wipeR_c {i : Nat} {is : List Nat} : wipeR ρ (i :: is) = (wipeR ρ is).set i .junk := (rfl)
def kCT (own : List Nat) (f : EF) (J : PyData → List R → Prop) (N : List R → Prop) : TPost := fun b ρ => if b = true then Wt (f ρ) (kCE own J) noX else N (wipeR ρ own)
theorem kCT_t {J : PyData → List R → Prop} {N : List R → Prop} : kCT own f J N true ρ = Wt (f ρ) (kCE own J) noX := if_pos rfl
theorem kCT_f {J : PyData → List R → Prop} {N : List R → Prop} : kCT own f J N false ρ = N (wipeR ρ own) := if_neg (by decide)
theorem kCT_b {J : PyData → List R → Prop} {N : List R → Prop} {b : Bool} (h1 : b = true → Wt (f ρ) (kCE own J) noX) (h2 : b = false → N (wipeR ρ own)) : kCT own f J N b ρ := by
  cases b
  · rw [kCT_f]; exact h2 rfl
  · rw [kCT_t]; exact h1 rfl
/-- J: how many are gone through, what has been told, the state -/
theorem compL_w (hw : ∀ ρ, wipeR (wipeR ρ own) own = wipeR ρ own) (J : Nat → List PyData → List R → Prop) {Q : List PyData → List R → Prop} : ∀ {ds acc : List PyData} {i : Nat} {ρ : List R}, J i acc (wipeR ρ own) → acc.length + ds.length ≤ 100000 →
    (∀ k d acc ρ, ds[k]? = some d → J (i + k) acc ρ → kO (g (.d d) ρ) fun ρ1 => Wt (t ρ1) (kCT own f (fun x ρ => J (i + k + 1) (acc ++ [x]) ρ) (fun ρ => J (i + k + 1) acc ρ)) noX) →
    (∀ acc ρ, J (i + ds.length) acc (wipeR ρ own) → Q acc ρ) → Wt (compL g t f own ds acc ρ) Q noX
  | [], acc, i, ρ, h, _, _, e => e acc ρ h
  | d :: ds, acc, i, ρ, h, hl, st, e => by
    obtain ⟨ρ1, e1, w⟩ := kO_ex (st 0 d acc _ rfl h)
    rw [compL.eq_2]
    simp only [e1]
    have go : ∀ acc' ρ2, acc'.length ≤ acc.length + 1 → J (i + 1) acc' (wipeR ρ2 own) → Wt (compL g t f own ds acc' ρ2) Q noX := fun acc' ρ2 hl' h2 => compL_w hw J (ds := ds) (i := i + 1) h2 (by rw [List.length_cons] at hl; omega) (fun k d' acc'' ρ hk hJ => by
      have := st (k + 1) d' acc'' ρ (by simpa using hk) (by rw [show i + (k + 1) = i + 1 + k by omega]; exact hJ)
      rw [show i + (k + 1) + 1 = i + 1 + k + 1 by omega] at this
      exact this) (fun acc'' ρ hJ => e acc'' ρ (by rw [List.length_cons, show i + (ds.length + 1) = i + 1 + ds.length by omega]; exact hJ))
    refine Wt.bind (Wt.mono (noEx_w w) fun b ρ2 z => ?_)
    cases b
    · exact go acc ρ2 (by omega) z
    · rw [if_pos rfl]
      unfold kCT at z
      rw [if_pos rfl] at z
      refine Wt.bind (Wt.mono (noEx_w z) fun r ρ3 ⟨x, ex, z⟩ => ?_)
      simp only [ex]
      rw [if_pos (by rw [List.length_cons] at hl; omega)]
      exact go _ ρ3 (by simp) z
theorem wipeR_wipeR (ρ : List R) (own : List Nat) : wipeR (wipeR ρ own) own = wipeR ρ own := by
  refine List.ext_getElem? fun j => ?_
  have key : ∀ (own : List Nat) (ρ : List R), (wipeR ρ own)[j]? = if j ∈ own ∧ j < ρ.length then some .junk else ρ[j]? := by
    intro own
    induction own with
    | nil => intro ρ; simp [wipeR]
    | cons a own ih =>
      intro ρ
      have hl : (wipeR ρ own).length = ρ.length := by
        clear ih
        induction own with
        | nil => rfl
        | cons b own ih => simp [wipeR, ih]
      simp only [wipeR, List.getElem?_set, ih, hl]
      by_cases h : a = j
      · subst h
        by_cases hj : a < ρ.length
        · simp [hj]
        · simp [hj]
      · have h' : ¬ j = a := fun z => h z.symm
        simp [h, h']
  have hl : (wipeR ρ own).length = ρ.length := by
    clear key
    induction own with
    | nil => rfl
    | cons b own ih => simp [wipeR, ih]
  rw [key, key, hl]
  by_cases h : j ∈ own ∧ j < ρ.length <;> simp [h]
/-- with effects: J holds of what is gone through, what has been told, the wiped state -/
theorem kComp_w {α : Type} {enc : α → PyData} {as : List α} (J : Nat → List PyData → List R → Prop) (hso : own.all (fun i => slotOk ρ[i]?) = true) (hl : as.length ≤ 100000) (e0 : wipeR ρ own = B) (h : J 0 [] B)
    (st : ∀ k a acc ρ, as[k]? = some a → J k acc ρ → kO (g (.d (enc a)) ρ) fun ρ1 => Wt (t ρ1) (kCT own f (fun x ρ => J (k + 1) (acc ++ [x]) ρ) (fun ρ => J (k + 1) acc ρ)) noX)
    (fin : ∀ acc ρ', J as.length acc ρ' → P (.ol acc) (backR ρ ρ' own)) : kComp own g t f P (as.map enc) ρ := by
  refine ⟨hso, compL_w (fun ρ => wipeR_wipeR ρ own) J (i := 0) (by rw [wipeR_wipeR, e0]; exact h) (by simpa using hl) (fun k d acc ρ hk hJ => ?_) (fun acc ρ' hJ => ?_)⟩
  · rw [List.getElem?_map] at hk
    rw [Nat.zero_add] at hJ ⊢
    cases e1 : as[k]? with
    | none => rw [e1] at hk; cases hk
    | some a => rw [e1] at hk; cases hk; exact st k a acc ρ e1 hJ
  · rw [Nat.zero_add, List.length_map] at hJ
    exact fin acc _ hJ
theorem map_int_range (lo : Int) (n : Nat) : rngD lo n = ((List.range n).map fun (k : Nat) => lo + (k : Int)).map .int := by
  unfold rngD; rw [List.map_map]; rfl
/-- a round that looks only -/
def kPE (own : List Nat) (B : List R) (x : PyData) : EPost := fun r ρ => toD r = some x ∧ wipeR ρ own = B
theorem kPE_ok {r : R} {x : PyData} (e : toD r = some x) (e1 : wipeR ρ own = B) : kPE own B x r ρ := ⟨e, e1⟩
def kPT (own : List Nat) (f : EF) (B : List R) (p : Bool) (x : PyData) : TPost := fun b ρ => b = p ∧ wipeR ρ own = B ∧ (p = true → Wt (f ρ) (kPE own B x) noX)
theorem kPT_ok {b p : Bool} {x : PyData} (e : b = p) (e1 : wipeR ρ own = B) (z : p = true → Wt (f ρ) (kPE own B x) noX) : kPT own f B p x b ρ := ⟨e, e1, z⟩
theorem kComp_p {α β : Type} {enc : α → PyData} {dec : β → PyData} {as : List α} (p : α → Bool) (m : α → β) (hso : own.all (fun i => slotOk ρ[i]?) = true) (hl : as.length ≤ 100000) (e0 : wipeR ρ own = B) (eb : backR ρ B own = ρ)
    (st : ∀ a, a ∈ as → kO (g (.d (enc a)) B) fun ρ1 => Wt (t ρ1) (kPT own f B (p a) (dec (m a))) noX)
    (fin : P (.ol (((as.filter p).map m).map dec)) ρ) : kComp own g t f P (as.map enc) ρ := by
  refine kComp_w (B := B) (fun k acc ρ' => ρ' = B ∧ acc = (((as.take k).filter p).map m).map dec) hso hl e0 ⟨rfl, rfl⟩ (fun k a acc ρ hk ⟨e, ea⟩ => ?_) (fun acc ρ' ⟨e, ea⟩ => ?_)
  · subst e
    obtain ⟨ρ1, e1, w⟩ := kO_ex (st a (List.mem_of_getElem? hk))
    refine kO_ok e1 (w.mono fun b ρ2 ⟨eb, e2, z⟩ => ?_)
    have tk : as.take (k + 1) = as.take k ++ [a] := by rw [List.take_add_one, hk]; rfl
    subst eb
    cases hp : p a with
    | false => rw [kCT_f]; exact ⟨e2, by rw [ea, tk]; simp [hp]⟩
    | true => rw [kCT_t]; exact (z hp).mono fun r ρ3 ⟨e3, e4⟩ => kCE_ok e3 e4 ⟨rfl, by rw [ea, tk]; simp [hp]⟩
  · subst e
    rw [eb, ea, List.take_length]
    exact fin
end
end TP
namespace TP
open PySem PySem.Spec PyProof.Rows L2
variable [TabsOf]
section
variable {ρ : List R} {r : R} {i : Nat} {x y z u v : PyData} {xs : List PyData} {os : List Op} {Q : Prop}
theorem vwd : vw (.d x) = some x := (rfl)
theorem vwol : vw (.ol xs) = some (.list xs) := (rfl)
theorem vwdt {ks : List (NestedKey × PyData)} : vw (.dt ks) = some (dictD ks) := (rfl)
theorem hview_t : hview ρ (.t r) = vw r := (rfl)
theorem hview_s : hview ρ (.s i) = (ρ[i]?).bind vw := (rfl)
theorem hview_p {π : List (Sx × Nat)} : hview ρ (.p i π) = (getP ρ i π).bind vw := (rfl)
theorem toD_d : toD (.d x) = some x := by simp [toD]
theorem toD_ol : toD (.ol xs) = some (.list xs) := by simp [toD]
theorem mkT1d : mkT [.d x] = .d (.tuple [x]) := (rfl)
theorem mkT2d : mkT [.d x, .d y] = .d (.tuple [x, y]) := (rfl)
theorem mkT3d : mkT [.d x, .d y, .d z] = .d (.tuple [x, y, z]) := (rfl)
theorem mkT5d : mkT [.d x, .d y, .d z, .d u, .d v] = .d (.tuple [x, y, z, u, v]) := (rfl)
theorem mkL0 : mkL [] = .ol [] := (rfl)
theorem mkL1 : mkL [.d x] = .ol [x] := (rfl)
theorem mkL2 : mkL [.d x, .d y] = .ol [x, y] := (rfl)
theorem mkL3 : mkL [.d x, .d y, .d z] = .ol [x, y, z] := (rfl)
theorem mkL4 : mkL [.d x, .d y, .d z, .d u] = .ol [x, y, z, u] := (rfl)
theorem mkL5 : mkL [.d x, .d y, .d z, .d u, .d v] = .ol [x, y, z, u, v] := (rfl)
theorem mkL6 {w : PyData} : mkL [.d x, .d y, .d z, .d u, .d v, .d w] = .ol [x, y, z, u, v, w] := (rfl)
theorem row3 {a b c : Int} : PyData.tuple [.int a, .int b, .int c] = rowD [a, b, c] := (rfl)
theorem gN_ok : gN i r ρ = some (ρ.set i r) := (rfl)
theorem gT_ok {gs : List GT} : gT gs r ρ = (parts r).bind fun rs => gAll gs rs ρ := (rfl)
theorem parts_t : parts (.d (.tuple xs)) = some (xs.map .d) := (rfl)
theorem parts_row {ns : List Int} : parts (.d (rowD ns)) = some (ns.map fun n => .d (.int n)) := by
  unfold rowD
  rw [parts_t, List.map_map]; rfl
theorem listK_l : listK [.list xs] = some (.ol xs) := (rfl)
theorem intK_int {n : Int} : intK [.int n] = some (.d (.int n)) := (rfl)
theorem isNotK_b {a b : Bool} : isNotK [.bool a, .bool b] = some (.d (.bool (!decide (a = b)))) := (rfl)
theorem isK_b {a b : Bool} : isK [.bool a, .bool b] = some (.d (.bool (decide (a = b)))) := (rfl)
theorem kMutI_l : kMutI (some (.ol xs)) isList [] os Q = Q := kMutI_ok rfl rfl
theorem appendM_d (hl : xs.length < 100000) : appendM (.ol xs) [.d x] = some (.ol (xs ++ [x]), .d .none) := by
  show ((toD (R.d x)).bind fun x => if xs.length < 100000 then some (R.ol (xs ++ [x]), R.d PyData.none) else none) = _
  rw [toD_d, Option.bind_some, if_pos hl]
theorem appendM_map {α : Type} {f : α → PyData} {as : List α} {a : α} (hl : as.length < 100000) : appendM (.ol (as.map f)) [.d (f a)] = some (.ol ((as ++ [a]).map f), .d .none) := by
  rw [appendM_d (by rw [List.length_map]; exact hl), List.map_append]; rfl
end
section
variable {x : Int} {b : Bool} {z : Str} {ds : List PyData}
theorem isi2_i : isi2K 0 1 [.int x] = some (.d (.bool false)) := (rfl)
theorem isi2_b : isi2K 0 1 [.bool b] = some (.d (.bool false)) := (rfl)
theorem isi2_s : isi2K 0 1 [.str z] = some (.d (.bool false)) := (rfl)
theorem isi2_n : isi2K 0 1 [.none] = some (.d (.bool false)) := (rfl)
theorem isi2_l : isi2K 0 1 [.list ds] = some (.d (.bool true)) := (rfl)
theorem isi2_t : isi2K 0 1 [.tuple ds] = some (.d (.bool true)) := (rfl)
theorem isi1_l : isiK 1 [.list ds] = some (.d (.bool true)) := (rfl)
theorem isi1_t : isiK 1 [.tuple ds] = some (.d (.bool false)) := (rfl)
theorem isi0_l : isiK 0 [.list ds] = some (.d (.bool false)) := (rfl)
theorem isi0_t : isiK 0 [.tuple ds] = some (.d (.bool true)) := (rfl)
theorem isN_i : isK [.int x, .none] = some (.d (.bool false)) := (rfl)
theorem isN_b : isK [.bool b, .none] = some (.d (.bool false)) := (rfl)
theorem isN_s : isK [.str z, .none] = some (.d (.bool false)) := (rfl)
theorem isN_n : isK [.none, .none] = some (.d (.bool true)) := (rfl)
theorem isi_2i : isiK 2 [.int x] = some (.d (.bool false)) := (rfl)
theorem isi_2b : isiK 2 [.bool b] = some (.d (.bool false)) := (rfl)
theorem isi_2s : isiK 2 [.str z] = some (.d (.bool true)) := (rfl)
theorem isi_3i : isiK 3 [.int x] = some (.d (.bool false)) := (rfl)
theorem isi_3b : isiK 3 [.bool b] = some (.d (.bool true)) := (rfl)
theorem isi_4i : isiK 4 [.int x] = some (.d (.bool true)) := (rfl)
theorem eqK_bool (a c : Bool) : eqK [.bool a, .bool c] = some (.d (.bool (a == c))) := by cases a <;> cases c <;> rfl
theorem neK_bool (a c : Bool) : neK [.bool a, .bool c] = some (.d (.bool (!(a == c)))) := by cases a <;> cases c <;> rfl
theorem lenK_l : lenK [.list ds] = some (.d (.int (ds.length : Nat))) := (rfl)
theorem lenK_t : lenK [.tuple ds] = some (.d (.int (ds.length : Nat))) := (rfl)
end
end TP
set_option linter.all false
set_option maxRecDepth 100000
set_option maxHeartbeats 2000000
/-! TPy: min of data; min with a default. -/
namespace TP
open PySem PySem.W PySem.Spec PyProof.Rows L2
variable [TabsOf]
def minOf : List PyData → PyData
  | [] => .none
  | y :: ys => minD y ys
def rMinD (K : PySem.W.Frag) : List V → Hp → VK → Prop := fun vs H Q => ∃ (a : Addr) (us : List V) (ds : List PyData), vs = [.ref a] ∧ SqL K H a us ∧ DpAll K H us ds ∧ AlikeAll ds ∧ ds ≠ [] ∧ PyData.depthAll ds ≤ 30 ∧ ∀ (i : Nat) (u : V), us[i]? = some u → ds[i]? = some (minOf ds) → Q u H
def rMinDef (K : PySem.W.Frag) : List V → List V → Hp → VK → Prop := fun vs zs H Q => ∃ (a : Addr) (us : List V) (ds : List PyData) (k : Int), vs = [.ref a] ∧ zs = [.int k] ∧ SqL K H a us ∧ DpAll K H us ds ∧ AlikeAll ds ∧ PyData.depthAll ds ≤ 30 ∧ (ds = [] → Q (.int k) H) ∧ (ds ≠ [] → ∀ (i : Nat) (u : V), us[i]? = some u → ds[i]? = some (minOf ds) → Q u H)
section
variable {X : Cx} {c : Ctx} {E : XK}
theorem min_pick {h h' : Heap} {its : List Value} {ds : List PyData} {as bs : List Addr} {i : Nat} {v : Value} {x : PyData} (hr : ReadsAll h its ds as) (hv : its.toArray[i]? = some v) (h2 : Reads h' v x bs) (hk : ∀ b o, h.get? b = some o → h'.get? b = some o) : ds[i]? = some x := by
  have hv' : its[i]? = some v := by simpa using hv
  obtain ⟨cs, r, hl, _, _⟩ := readsAll_at hr i v hv'
  have e := (reads_det (fun b o q _ => hk b o q) r h2).1
  rw [e, List.getD_eq_getElem?_getD, List.getElem?_eq_getElem hl]; rfl
theorem relat {xs : List V} {us : List Value} {i : Nat} {x : V} {v : Value} (r : Vals xs us) (e : xs[i]? = some x) (e2 : us[i]? = some v) : RelV x v := by
  obtain ⟨u, h1, h2⟩ := r.get e
  rw [e2] at h1; cases h1; exact h2
theorem call_minD (hc : X.calm = true) (hu4 : X.A.units + 64 < cLine) : CallR X (.builtin "min") (rMinD X.K) := by
  intro pins s σ H vs us Q I r h
  obtain ⟨a, ws, ds, rfl, hs, hd, ha, hne, hdp, q⟩ := h
  obtain ⟨its, rv, hl, _⟩ := I.list hs
  obtain ⟨as, hr⟩ := Dp.readsAll I ds ws its hd rv
  rw [Vals.ref1 r]
  cases ds with
  | nil => exact absurd rfl hne
  | cons y ys =>
    refine min_list_data (I.ok.hd hc) hl.isList (by simpa using hr) ha (by omega) fun i v h' tk bs hv h2 hk => ?_
    have e := min_pick hr hv h2 hk
    have hv' : its[i]? = some v := by simpa using hv
    have hl2 : ws.length = its.length := rv.length
    have hi : i < ws.length := by rw [hl2]; exact (List.getElem?_eq_some_iff.mp hv').1
    exact ⟨ws[i], H, I.kept hk, relat rv (List.getElem?_eq_getElem hi) hv', q i _ (List.getElem?_eq_getElem hi) e⟩
theorem call_minDef (hc : X.calm = true) (hu4 : X.A.units + 64 < cLine) : CallRK X (.builtin "min") ["default"] (rMinDef X.K) := by
  intro pins s σ H vs zs us ws Q I r r2 h
  obtain ⟨a, ps, ds, k, rfl, rfl, hs, hd, ha, hdp, q0, q⟩ := h
  obtain ⟨its, rv, hl, _⟩ := I.list hs
  obtain ⟨as, hr⟩ := Dp.readsAll I ds ps its hd rv
  rw [Vals.ref1 r]
  obtain ⟨w, rfl, rw1⟩ := Vals.one r2
  refine min_list_default (I.ok.hd hc) hl.isList (by simpa using hr) ha (by omega) (fun e h' tk hk => ?_) fun y ys i v h' tk bs e hv h2 hk => ?_
  · exact ⟨_, H, I.kept hk, rw1, q0 e⟩
  · have e2 := min_pick hr hv h2 hk
    have hv' : its[i]? = some v := by simpa using hv
    have hl2 : ps.length = its.length := rv.length
    have hi : i < ps.length := by rw [hl2]; exact (List.getElem?_eq_some_iff.mp hv').1
    exact ⟨ps[i], H, I.kept hk, relat rv (List.getElem?_eq_getElem hi) hv', q (by rw [e]; simp) i _ (List.getElem?_eq_getElem hi) (by rw [e2, e]; rfl)⟩
noncomputable instance (ds : List PyData) : Decidable (AlikeAll ds) := Classical.propDecidable _
noncomputable def minDK : List PyData → Option R
  | [.list ds] => if AlikeAll ds ∧ ds ≠ [] ∧ PyData.depthAll ds ≤ 30 then some (.d (minOf ds)) else none
  | _ => none
noncomputable def minDefK : List PyData → Option R
  | [.list ds, .int k] => if AlikeAll ds ∧ PyData.depthAll ds ≤ 30 then some (.d (if ds = [] then .int k else minOf ds)) else none
  | _ => none
theorem dpall_atd {K : PySem.W.Frag} {I : Hp} : ∀ {vs : List V} {ds : List PyData}, DpAll K I vs ds → ∀ {i : Nat} {u : V} {d : PyData}, vs[i]? = some u → ds[i]? = some d → Dp K I u d
  | _, _, .nil, _, _, _, e, _ => by simp at e
  | _, _, .cons h _, 0, _, _, e, e2 => by simp at e e2; subst e; subst e2; exact h
  | _, _, .cons _ t, i + 1, _, _, e, e2 => dpall_atd t (by simpa using e) (by simpa using e2)
theorem n_minD : NOk c minDK (rMinD c.K) := by
  intro I H vs ds res Q ih hv hk q
  unfold minDK at hk
  split at hk
  · obtain ⟨v, rfl, h1⟩ := vw1 hv
    obtain ⟨p, us, rfl, s1, d1⟩ := h1.lst ih
    split at hk
    · rename_i h
      cases hk
      exact ⟨p, us, _, rfl, s1, dpall_mono ih _ _ d1, h.1, h.2.1, h.2.2, fun i u e1 e2 => ans_d ih (dpall_atd d1 e1 e2) q⟩
    · cases hk
  · cases hk
theorem n_minDef : NOk c minDefK (fun vs H Q => match vs with
    | [x, y] => rMinDef c.K [x] [y] H Q
    | _ => False) := by
  intro I H vs ds res Q ih hv hk q
  unfold minDefK at hk
  split at hk
  · obtain ⟨v, w, rfl, h1, h2⟩ := vw2 hv
    obtain ⟨p, us, rfl, s1, d1⟩ := h1.lst ih
    cases h2.int
    split at hk
    · rename_i h
      cases hk
      refine ⟨p, us, _, _, rfl, rfl, s1, dpall_mono ih _ _ d1, h.1, h.2, fun e => ?_, fun hne i u e1 e2 => ?_⟩
      · rw [if_pos e] at q
        exact ans_d ih (.int _) q
      · rw [if_neg hne] at q
        exact ans_d ih (dpall_atd d1 e1 e2) q
    · cases hk
  · cases hk
theorem se_minDef {x : Str} {p pos kpos : Pos} {e e2 : Expr} {o o2 : Op} (ok : CtxOk X c) (hc : X.calm = true) (hu4 : X.A.units + 64 < cLine) (hg : Gl X x) (hm : X.mg x = none) (hv : bootBuiltins x = some (.builtin "min")) (h : SO X c E e o) (h2 : SO X c E e2 o2)
    (hn : x ≠ "__name__" := by decide) (hdb : (x == ("__debug__" : Str)) = false := by decide)
    (he : backTo pos (starEach [e] X.env) = (false, eval e X.env) :: backTo pos (starEach [] X.env) := by rfl) (hpl : (backTo pos (starEach [e] X.env)).any (·.1) = false := by rfl)
    (hall : (backToKw pos (keywordEach [⟨some "default", e2, kpos⟩] X.env)).all (·.1.isSome) = true := by rfl) (hnone : (backToKw pos (keywordEach [⟨some "default", e2, kpos⟩] X.env)).any (·.1.isNone) = false := by rfl) (hks : (backToKw pos (keywordEach [⟨some "default", e2, kpos⟩] X.env)).filterMap (·.1) = [Str.ofString "default"] := by rfl) (hst : starEach [e] X.env = (false, eval e X.env) :: starEach [] X.env := by rfl) :
    SE X c E (.Call (.Name x p) [e] [⟨some "default", e2, kpos⟩] pos) (cN minDefK [o, o2]) := by
  obtain ⟨t, pe, tr⟩ := h
  obtain ⟨t2, pe2, tr2⟩ := h2
  have hr := call_minDef (X := X) hc hu4
  rw [ok.k] at hr
  exact se_n ok (pe_callBK hr hg hm hv (pa_cons pe pa_nil hst) (pk_cons pe2 pk_nil) hn hdb he hpl hall hnone hks) n_minDef (.cons tr (.cons tr2 .nil)) fun σ H Q z => z
end
end TP
set_option linter.all false
set_option maxRecDepth 100000
set_option maxHeartbeats 3200000
/-! TPv: sorted(set(xs)), len(set(xs)), xs a list of ints; list(range(n)). -/
namespace TP
open PySem PySem.W PySem.Spec PyProof.Rows L2
abbrev blankSet (w : World) : Obj := { cls := .type "set", dict := none, data := .set #[] 0 (.fresh 0 0 (!w.params.followText "set-order")) }
section
variable {P : Program} {w : World} {A : Around} {E : Value → Shared → Prop} {s : Shared}
theorem call_set_lstI {l : Addr} {us : Array Value} (ns : List Int) {Q : Value → Shared → Prop} (calm : A.handled = none) (isl : s.heap.IsList l us) (are : IntsAre us.toList ns) (few : ns.length + 1 < scanBound)
    (fin : ∀ (hp : Heap) (tk c : Nat), SetR w hp s.heap.objs.size (fun j => decide (j ∈ ns)) c → c ≤ ns.length → (∀ b o, s.heap.get? b = some o → hp.get? b = some o) → Q (.ref s.heap.objs.size) { s with heap := hp, toks := tk }) :
    wpAny (model P w) A (call (.type "set") [.ref l]) Q E s := by
  have usz : us.size = ns.length := by
    have := are.length
    rwa [Array.length_toList] at this
  obtain ⟨c, tl, hmro⟩ := F.called_set.mro
  have hmade := F.called_set.made
  have hsub := F.called_set.sub
  refine wpAny_call (codeAny_of_tree ?_)
  show wpAny _ _ (callAny (.type "set") _) _ _ s
  refine wpAny_pure ⟨Code.quiet_builtin _ (by decide +kernel), codeAny_builtin F.entry_type_call ?_⟩
  rw [Around.under_plain (weight_type_call_type "set" [Value.ref l] []) rfl]
  have z1 := F.called_set.notType
  have z2 := F.called_set.canCreate
  have z3 := F.typeCall_set_1 (Value.ref l)
  repeat (any_goals (first | assumption | wp_step))
  refine codeAny_mono (code_set_led1 (Value.ref l) (E := E) (Q₁ := fun ob s1 => ob = .ref s.heap.objs.size ∧ s1 = { s with heap := s.heap.push (blankSet w) }) ⟨rfl, rfl⟩) fun r1 s1 e1 => ?_
  cases r1 with
  | error e => exact e1
  | ok f1 =>
    cases f1 with
    | ret ob =>
      obtain ⟨rfl, rfl⟩ := e1
      have at0 : (s.heap.push (blankSet w)).get? s.heap.objs.size = some (blankSet w) := Heap.get?_push_size _ rfl
      have ty0 : Shared.TypeIs { s with heap := s.heap.push (blankSet w) } (.ref s.heap.objs.size) "set" := ⟨_, at0, rfl⟩
      have z4 := F.called_set.init.lookup
      have z5 := F.called_set.init.bind (Value.ref s.heap.objs.size)
      repeat (any_goals (first | assumption | wp_step))
      refine codeAny_mono (codeAny_call_builtin (R := wants (fun r2 s2 => r2 = .none ∧ ∃ hp tk c, s2 = { s with heap := hp, toks := tk } ∧ SetR w hp s.heap.objs.size (fun j => decide (j ∈ ns)) c ∧ c ≤ ns.length ∧ (∀ b o, s.heap.get? b = some o → hp.get? b = some o)) E) F.called_set.init.plain F.entry_set_init (check_set_init_1 ty0 ?_)) fun r2 s2 e2 => ?_
      · obtain ⟨ol, a1, a2, nl, a3⟩ := isl
        obtain ⟨ocls, odict, odata, oslots⟩ := ol
        simp only at a2 a3
        subst a2; subst a3
        have a4 : (s.heap.push (blankSet w)).get? l = some { cls := .type "list", dict := odict, data := .seq us nl, slots := oslots } := Heap.get?_push_of_some _ a1
        have z6 := F.sub_list_set
        have z7 := F.sub_list_frozenset
        have z8 : (Value.type "list" == Value.type "dict") = false := by decide
        have isl1 : (s.heap.push (blankSet w)).IsList l us := ⟨_, a4, rfl, nl, rfl⟩
        unfold Builtin.«set.__init__» noKeywords Builtin.Frozenset.updateFrom
        generalize hPI : pyIter = PI
        wp_walk
        subst hPI
        refine wpAny_pyIter_list isl1 ?_
        refine wpAny_bind (wpAny_runValue ?_)
        have ls : l < s.heap.objs.size := Heap.lt_size a1
        have calm3 : A.in1.in1.in1.handled = none := by simp [calm]
        have neI : l ≠ (s.heap.push (blankSet w)).objs.size := by
          rw [Heap.size_push]
          exact Nat.ne_of_lt (Nat.lt_succ_of_lt ls)
        have apart : s.heap.objs.size ∉ [(s.heap.push (blankSet w)).objs.size, l] := fun z => by
          rw [Heap.size_push] at z
          rcases List.mem_cons.mp z with z | z
          · exact absurd z (Nat.ne_of_lt (Nat.lt_succ_self _))
          · exact absurd (List.mem_singleton.mp z) (Nat.ne_of_gt ls)
        have val : ∀ (i : Nat) (v : Value), us[i]? = some v → ∃ k t, ns[i]? = some k ∧ v = .int k t := fun i v hv => by
          have hi : i < ns.length := by
            rw [← usz]
            exact (Array.getElem?_eq_some_iff.mp hv).1
          obtain ⟨t, e⟩ := PyProof.Rows.IntsAre.int_at are i v (by rw [Array.getElem?_toList]; exact hv)
          exact ⟨ns[i], t, List.getElem?_eq_getElem hi, by rw [e, List.getD_eq_getElem?_getD, List.getElem?_eq_getElem hi] <;> rfl⟩
        refine set_update_ints ((Walks.list calm3 _ l neI us).toS) s.heap.objs.size apart ns usz few val (us.size - 0) 0 _ (by omega) (Nat.zero_le _) ⟨⟨_, Heap.get?_push_size _ rfl, rfl, rfl⟩, (isl1.push _)⟩ ?st ?fi
        case st =>
          exact ⟨0, Nat.le_refl 0, setR_new_at (Heap.get?_push_of_some _ at0)⟩
        case fi =>
          intro s' c' mv hc' hS'
          obtain ⟨hp, g2, d', tk', os'⟩ := s'
          have eg : g2 = s.gens := mv.gens
          have ed : d' = s.drawn := mv.drawn
          have eo : os' = s.os := mv.os
          subst eg ed eo
          refine wpAny_pure ?_
          show wpAny _ _ (ret Value.none) _ _ _
          rw [usz] at hc'
          refine wpAny_pure ⟨rfl, hp, tk', c', rfl, hS', hc', fun b o e => ?_⟩
          have hb0 : b < s.heap.objs.size := Heap.lt_size e
          refine mv.heap b o (fun z => ?_) (Heap.get?_push_of_some _ (Heap.get?_push_of_some _ e))
          rcases List.mem_cons.mp z with z | z
          · exact absurd z (Nat.ne_of_lt hb0)
          · rw [List.mem_singleton, Heap.size_push] at z
            exact absurd z (Nat.ne_of_lt (Nat.lt_succ_of_lt hb0))
      · cases r2 with
        | error e => exact e2
        | ok f2 =>
          cases f2 with
          | ret r =>
            obtain ⟨rfl, hp, tk, c', rfl, b1, b2, b3⟩ := e2
            repeat (any_goals (first | assumption | wp_step))
            exact fin _ _ _ b1 b2 b3
          | _ => exact e2.elim
    | _ => exact e1.elim
end
end TP
set_option linter.all false
set_option maxRecDepth 100000
set_option maxHeartbeats 2000000
/-! TPu: sorted(set(xs)), xs a list of ints. -/
namespace TP
open PySem PySem.Spec PyProof.Rows L2
variable [TabsOf]
section
variable {c : Ctx} {X : Cx} {E : XK}
def idd : List Int → List Int
  | [] => []
  | a :: l => if a ∈ l then idd l else a :: idd l
theorem idd_mem {a : Int} : ∀ {l : List Int}, a ∈ idd l ↔ a ∈ l
  | [] => Iff.rfl
  | b :: l => by
    unfold idd
    split
    · rename_i h
      rw [idd_mem, List.mem_cons]
      exact ⟨.inr, fun z => z.elim (fun e => by rw [e]; exact h) id⟩
    · rw [List.mem_cons, List.mem_cons, idd_mem]
theorem idd_nodup : ∀ l : List Int, (idd l).Nodup
  | [] => List.nodup_nil
  | b :: l => by
    unfold idd
    split
    · exact idd_nodup l
    · rename_i h
      exact List.nodup_cons.mpr ⟨fun z => h (idd_mem.mp z), idd_nodup l⟩
abbrev leZ (a b : Int) : Bool := decide (a ≤ b)
theorem leZ_trans (a b c : Int) (h1 : leZ a b = true) (h2 : leZ b c = true) : leZ a c = true := decide_eq_true (Int.le_trans (of_decide_eq_true h1) (of_decide_eq_true h2))
theorem leZ_total (a b : Int) : (leZ a b || leZ b a) = true := by
  simp only [leZ, Bool.or_eq_true, decide_eq_true_eq]
  omega
def iset (l : List Int) : List Int := (idd l).mergeSort leZ
theorem iset_is {l m : List Int} (pw : m.Pairwise (· < ·)) (h : ∀ a, a ∈ m ↔ a ∈ l) : m = iset l := by
  have nd : m.Nodup := pw.imp fun z => Int.ne_of_lt z
  have p : m.Perm (iset l) := ((List.perm_ext_iff_of_nodup nd (idd_nodup l)).mpr fun a => (h a).trans idd_mem.symm).trans (List.mergeSort_perm _ _).symm
  have pw1 : m.Pairwise (fun a b => leZ a b = true) := pw.imp fun h => decide_eq_true (Int.le_of_lt h)
  have pw2 : (iset l).Pairwise (fun a b => leZ a b = true) := List.pairwise_mergeSort leZ_trans leZ_total _
  exact List.Perm.eq_of_pairwise (fun a b _ _ h1 h2 => Int.le_antisymm (of_decide_eq_true h1) (of_decide_eq_true h2)) pw1 pw2 p
def rSetI (K : PySem.W.Frag) (w : World) : List V → Hp → VK → Prop := fun xs H Q => ∃ (l : Addr) (ns : List Int), xs = [V.ref l] ∧ SqL K H l (ns.map V.int) ∧ ns.length < 64 ∧ ∀ a n, H a = none → n ≤ ns.length → Q (.ref a) (upd H a (SetO w a (fun j => decide (j ∈ ns)) n))
theorem cr_setI (hc : X.calm = true) : CallR X (.type "set") (rSetI X.K X.w) := by
  intro pins s σ H xs us Q I r h
  obtain ⟨l, ns, rfl, hl, few, q⟩ := h
  rw [Vals.ref1 r]
  obtain ⟨its, rv, pl, _⟩ := I.list hl
  have nn : H s.heap.objs.size = none := I.hok.fresh (Nat.le_refl _)
  refine call_set_lstI (P := X.prog) (w := X.w) ns (I.ok.hd hc) pl.isList (by simpa using rv.ints) (by unfold scanBound; omega) fun hp tk n R hn k => ?_
  exact ⟨.ref s.heap.objs.size, _, I.laid (t' := tk) k (Nat.le_refl _) (setO_new R), rfl, q _ n nn hn⟩
def rSetSortI (K : PySem.W.Frag) (w : World) : List V → Hp → VK → Prop := fun vs H Q => rSetI K w vs H fun v H1 => rSortedSet w [v] H1 Q
def setSortIK : List PyData → Option R
  | [.list xs] => (intsOf xs).bind fun ns => if ns.length < 64 then some (.ol ((iset ns).map .int)) else none
  | _ => none
theorem n_setSortI {w : World} : NOk c setSortIK (rSetSortI c.K w) := by
  intro I H vs ds res Q ih hv hk q
  unfold setSortIK at hk
  split at hk
  · rename_i ds
    obtain ⟨v, rfl, h1⟩ := vw1 hv
    obtain ⟨l, us, rfl, s1, d1⟩ := h1.lst ih
    cases e : intsOf ds with
    | none => rw [e] at hk; cases hk
    | some ns =>
      rw [e, Option.bind_some] at hk
      split at hk
      · rename_i few
        cases hk
        rw [intsOf_eq e] at d1
        rw [dpall_ints d1] at s1
        refine ⟨l, ns, rfl, s1, few, fun a n ha hn => ⟨a, _, n, rfl, upd_same, by omega, fun ms p pw hm hl hp => ?_⟩⟩
        have es : ms = iset ns := iset_is pw fun b => by rw [hm]; simp
        have stA : Stp [] I H [] I (upd H a (SetO w a (fun j => decide (j ∈ ns)) n)) := (stp_new (o := SetO w a (fun j => decide (j ∈ ns)) n) ih ha).less (by simp)
        have ih2 := stA.ih
        have stB := stp_new (o := .lst (ms.map V.int)) ih2 hp
        subst es
        exact q _ I _ [p] (stA.trans stB) (by simp) (.ol upd_same (ih2.free hp) (dpall_intV _))
      · cases hk
  · cases hk
theorem se_setSortI {a : Expr} {oa : Op} {p p2 pos pos2 : Pos} (ok : CtxOk X c) (hc : X.calm = true) (hgs : Gl X "sorted") (hms : X.mg "sorted" = none) (hgt : Gl X "set") (hmt : X.mg "set" = none) (sa : SO X c E a oa)
    (he : starEach [a] X.env = (false, eval a X.env) :: starEach [] X.env := by rfl) (hpl : (backTo pos2 (starEach [] X.env)).any (·.1) = false := by rfl)
    (he2 : starEach [.Call (.Name "set" p2) [a] [] pos2] X.env = (false, eval (.Call (.Name "set" p2) [a] [] pos2) X.env) :: starEach [] X.env := by rfl) (hpl2 : (backTo pos (starEach [] X.env)).any (·.1) = false := by rfl) :
    SE X c E (.Call (.Name "sorted" p) [.Call (.Name "set" p2) [a] [] pos2] [] pos) (cN setSortIK [oa]) := by
  obtain ⟨ta, pa, ra⟩ := sa
  have psx := pe_callTy (p := p2) (cr_setI hc) hgt hmt PyProof.Rows.boot_set (pa_cons pa pa_nil he) (by decide) (by decide) he hpl
  exact se_n (rd := rSetSortI c.K X.w) ok (pe_callB (cr_sortedSet hc) hgs hms boot_sortedT (pa_cons psx pa_nil he2) (by decide) (by decide) he2 hpl2) n_setSortI (.cons ra .nil) fun σ H Q h => by
    rw [ok.k]
    exact h
/-! ### list(range(n)) -/
noncomputable def rngLK : List PyData → Option R
  | [.int n] => @ite _ (-1000000 ≤ n ∧ n ≤ 100000) (Classical.propDecidable _) (some (.ol (rngD 0 n.toNat))) none
  | _ => none
def rRngL : List V → Hp → VK → Prop := fun vs H Q => match vs with
  | [x] => ∃ b : Int, x = .int b ∧ RgOk 0 b ∧ ∀ q, H q = none → Q (.ref q) (upd H q (.lst (rgV 0 b)))
  | _ => False
theorem rgV_dp {K : PySem.W.Frag} {I : Hp} (b : Int) : DpAll K I (rgV 0 b) (rngD 0 b.toNat) := by
  have e1 : rgV 0 b = (((List.range b.toNat).map fun (k : Nat) => (0 : Int) + (k : Int))).map V.int := by
    unfold rgV
    rw [List.map_map, Int.sub_zero]; rfl
  have e2 : rngD 0 b.toNat = (((List.range b.toNat).map fun (k : Nat) => (0 : Int) + (k : Int))).map PyData.int := by
    unfold rngD
    rw [List.map_map]; rfl
  rw [e1, e2]
  exact dpall_intV _
theorem n_rngL : NOk c rngLK rRngL := by
  intro I H vs ds res Q ih hv hk q
  unfold rngLK at hk
  split at hk
  · obtain ⟨v, rfl, h1⟩ := vw1 hv
    cases h1.int
    split at hk
    · rename_i hb
      cases hk
      exact ⟨_, rfl, ⟨by omega, by omega, by omega, by omega, by omega⟩, fun p hp => ans_ol ih hp (rgV_dp _) q⟩
    · cases hk
  · cases hk
theorem se_rngL {a : Expr} {oa : Op} {p p2 pos pos2 : Pos} (ok : CtxOk X c) (hc : X.calm = true) (hgl : Gl X "list") (hml : X.mg "list" = none) (hgr : Gl X "range") (hmr : X.mg "range" = none) (sa : SO X c E a oa)
    (na : starEach [a] X.env = (false, eval a X.env) :: starEach [] X.env := by rfl) (nb : starEach [.Call (.Name "range" p2) [a] [] pos2] X.env = (false, eval (.Call (.Name "range" p2) [a] [] pos2) X.env) :: starEach [] X.env := by rfl) :
    SE X c E (.Call (.Name "list" p) [.Call (.Name "range" p2) [a] [] pos2] [] pos) (cN rngLK [oa]) := by
  obtain ⟨ta, pa, ra⟩ := sa
  refine se_n (rd := rRngL) ok (pe_listRg hc hgl hml (prg_1 hgr hmr pa na) nb) n_rngL (.cons ra .nil) fun σ H Q h => ?_
  exact h
end
end TP
set_option linter.all false
set_option maxRecDepth 100000
set_option maxHeartbeats 2000000
/-! TLa: lambdas: made, entered, called. -/
namespace TP
open PySem PySem.Spec PyProof.Rows L2 LamX
/-- all stays, but that tables may grow -/
theorem grown_same {H H1 : Hp} {P c' : Addr} {q : Str} {ps more : Array Value} (hP : H P = some (.tbl ps)) (nC : H c' = none) : Same H (upd (upd H P (.tbl (ps ++ more))) c' (CodeO c' q)) := ⟨fun b o e n => by
    have n1 : b ≠ c' := ne_of_none e nC
    have n2 : b ≠ P := fun z => by
      subst z
      rw [hP] at e
      exact n ps (Option.some.inj e).symm
    rw [upd_ne n1, upd_ne n2]; exact e, fun b qs e => by
    have n1 : b ≠ c' := ne_of_none e nC
    by_cases hb : b = P
    · subst hb
      exact ⟨_, by rw [upd_ne n1, upd_same]⟩
    · exact ⟨qs, by rw [upd_ne n1, upd_ne hb]; exact e⟩⟩
section
variable {X : Cx} {pins : List (Addr × Obj)} {σ : L2.St} {H : Hp} {s : Shared}
/-- the lambda is made (TabB: what its maker's code object and table are) -/
theorem lam_new {T : List (Addr × Str)} {cA tA : Addr} {ar : Arguments} {bd : Expr} {sc : Scope} {po : Pos} {Er : Value → Shared → Prop} {Q : Value → Shared → Prop} (J : Inv X pins σ H s) (tab : TabB X.base X.mg cA tA) (code : X.env.code = .ref cA)
    (inT : (tA, X.env.qual ++ "<lambda>") ∈ T) (one : ∀ p ∈ T, p.1 = tA → p.2 = X.env.qual ++ "<lambda>") (hT : Tabs T H) (nodef : defaultsOf ar X.env = ([], [])) (free : ∀ y ∈ sc.names, y.2 = .free → ∃ c, X.env.cells.lookup y.1 = some c)
    (fin : ∀ (f c' : Addr) (pm ctv : Value) (H1 : Hp) (s' : Shared), Inv X pins σ H1 s' → Same H H1 → Tabs T H1 → s'.heap.get? f = some (PySem.W.kla_obj "<lambda>" (X.env.qual ++ "<lambda>") ar bd sc (cloFrom X.env.cells sc.names []) pm c' ctv) → H1 f = none → f ∉ frs X.stack → H1 c' = some (CodeO c' (X.env.qual ++ "<lambda>")) → Q (.ref f) s') :
    wpAny (model X.prog X.w) X.A (eval (.Lambda ar bd sc po) X.env) Q Er s := by
  obtain ⟨ps, a1, a2, a3⟩ := hT _ inT
  refine PySem.W.kla_eval nodef ?_
  have b1 : s.heap.BuiltinsAt X.mg tA := tab.bm.keeps J.bk
  have b2 : s.heap.get? tA = some { cls := .none, data := .fields ps } := J.hok tA _ a1
  have offstack : ∀ f, s.heap.objs.size ≤ f → f ∉ frs X.stack := fun f hf z => by
    rcases List.mem_cons.mp (J.stkSub _ z) with e | e
    · have := J.lt
      rw [← e] at this
      exact Nat.lt_irrefl _ (Nat.lt_of_lt_of_le this hf)
    · exact J.nofs hf e
  cases hc : codeAmong po ps.toList with
  | none =>
    refine PySem.W.kla_makeFunction (mg := X.mg) (c := cA) (P := tA) (ps := ps) (closure_ok free) J.ok.glob (J.mod.glob.keeps J.bk) code (tab.code.keeps J.bk) b2 a2 hc tab.gP b1 fun c' ctv h' tk hx hge hlt hrec htb => ?_
    obtain ⟨c2, oc, vs, t, e2, hoc, hd, hv⟩ := hrec
    cases e2
    have grow : s.heap.objs.size ≤ h'.objs.size := Nat.le_trans hge (Nat.le_of_lt hlt)
    have nC : H c' = none := J.hok.fresh hge
    have J1 := inv_table (t' := tk) (more := #[rawInt po.line, rawInt po.col, .ref c']) (h' := h'.push (PySem.W.kla_obj "<lambda>" (X.env.qual ++ "<lambda>") ar bd sc (cloFrom X.env.cells sc.names []) ((X.mg "__name__").getD .none) c' ctv)) J a1
      (fun b o hb e => Heap.get?_push_of_some _ (hx b o hb e)) (Heap.get?_push_of_some _ htb) hge ⟨oc, vs, t, Heap.get?_push_of_some _ hoc, hd, hv⟩
    have sm := grown_same (H1 := H) (q := X.env.qual ++ "<lambda>") (more := #[rawInt po.line, rawInt po.col, .ref c']) a1 nC
    have eL : (ps ++ #[rawInt po.line, rawInt po.col, .ref c']).toList = ps.toList ++ [rawInt po.line, rawInt po.col, .ref c'] := by simp
    refine fin h'.objs.size c' ((X.mg "__name__").getD .none) ctv _ _ J1 sm (fun p hp => ?_) (Heap.get?_push_size _ rfl) ?_ (offstack _ grow) upd_same
    · by_cases hb : p.1 = tA
      · rw [one p hp hb, hb]
        refine ⟨_, by rw [upd_ne (ne_of_none a1 nC), upd_same], by rw [eL]; exact PySem.TriplesOk_snoc _ _ _ _ a2, fun p' cv hcv => ?_⟩
        rw [eL] at hcv
        rcases among_app _ a2 hcv with z | z
        · obtain ⟨c0, e1, e2⟩ := a3 p' cv z
          exact ⟨c0, e1, sm.o _ _ e2 codeO_ne⟩
        · exact ⟨c', z, upd_same⟩
      · obtain ⟨ps', k1, k2, k3⟩ := hT p hp
        refine ⟨ps', by rw [upd_ne (ne_of_none k1 nC), upd_ne hb]; exact k1, k2, fun p' cv hcv => ?_⟩
        obtain ⟨c0, e1, e2⟩ := k3 p' cv hcv
        exact ⟨c0, e1, sm.o _ _ e2 codeO_ne⟩
    · have n1 : h'.objs.size ≠ c' := Nat.ne_of_gt hlt
      have n2 : h'.objs.size ≠ tA := Nat.ne_of_gt (Nat.lt_of_lt_of_le (Heap.lt_size b2) grow)
      rw [upd_ne n1, upd_ne n2]
      exact J.hok.fresh grow
  | some cv =>
    obtain ⟨c', e, isC⟩ := a3 po cv hc
    subst e
    refine PySem.W.kla_makeFunctionHit (mg := X.mg) (c := cA) (P := tA) (ps := ps) (closure_ok free) J.ok.glob (J.mod.glob.keeps J.bk) code (tab.code.keeps J.bk) b2 a2 hc b1 fun ctv h' tk hx hsz => ?_
    have J1 : Inv X pins σ H { s with heap := h'.push (PySem.W.kla_obj "<lambda>" (X.env.qual ++ "<lambda>") ar bd sc (cloFrom X.env.cells sc.names []) ((X.mg "__name__").getD .none) c' ctv), toks := tk } := J.kept fun b o e => Heap.get?_push_of_some _ (hx b o e)
    exact fin h'.objs.size c' ((X.mg "__name__").getD .none) ctv H _ J1 (Same.refl H) hT (Heap.get?_push_size _ rfl) (J.hok.fresh hsz) (offstack _ hsz) isC
/-! ### its names: bs are bound at its call -/
structure LamP (sc lam : Scope) (ws : List Str) : Prop where
  kind : lam.kind = .function
  co : lam.isCoroutine = false
  gen : lam.isGenerator = false
  own : ∀ y ∈ lam.names, y.2 ≠ .cell ∧ (y.2 = .local → y.1 ∈ ws)
  loc : ∀ x ∈ ws, lam.names.lookup x = some .local
  free : ∀ y ∈ lam.names, y.2 = .free → sc.names.lookup y.1 = some .cell ∨ sc.names.lookup y.1 = some .free
def lamPB (sc lam : Scope) (own : List Str) : Bool :=
  decide (lam.kind = .function) && !lam.isCoroutine && !lam.isGenerator && (lam.names.all fun y => !decide (y.2 = .cell) && (!decide (y.2 = .local) || decide (y.1 ∈ own)) && (!decide (y.2 = .free) || decide (sc.names.lookup y.1 = some .cell) || decide (sc.names.lookup y.1 = some .free))) && own.all fun x => decide (lam.names.lookup x = some .local)
theorem lamP_by {sc lam : Scope} {own : List Str} (h : lamPB sc lam own = true) : LamP sc lam own := by
  unfold lamPB at h
  simp only [Bool.and_eq_true, Bool.or_eq_true, Bool.not_eq_true', decide_eq_true_eq, decide_eq_false_iff_not, List.all_eq_true] at h
  obtain ⟨⟨⟨⟨h1, h2⟩, h3⟩, h4⟩, h5⟩ := h
  refine ⟨h1, h2, h3, fun y hy => ⟨(h4 y hy).1.1, fun z => (h4 y hy).1.2.resolve_left fun k => k z⟩, h5, fun y hy e => ?_⟩
  rcases (h4 y hy).2 with (z | z) | z
  · exact absurd e z
  · exact .inl z
  · exact .inr z
theorem LamP.has {X : Cx} {lam : Scope} {own : List Str} (L : LamP X.env.scope lam own) (ok : X.Ok) : ∀ y ∈ lam.names, y.2 = .free → ∃ c, X.env.cells.lookup y.1 = some c := fun y hy e => (L.free y hy e).elim (fun k => ok.has _ (.inl k)) (fun k => ok.has _ (.inr k))
/-- the state within: the maker's, and what is bound -/
structure LamSt (X : Cx) (σ σ' : L2.St) (bs : List (Str × Value)) : Prop where
  len : σ'.length = X.N.length
  own : ∀ (i : Nat) (y : Str) (v : V), X.N[i]? = some y → σ'[i]? = some (some v) → y ∈ bs.map (·.1) → ∃ u, RelV v u ∧ bs.reverse.lookup y = some u
  out : ∀ (i : Nat) (y : Str) (v : V), X.N[i]? = some y → σ'[i]? = some (some v) → y ∉ bs.map (·.1) → σ[i]? = some (some v)
theorem lam_enter {A : Around} {outer : List Env} {E : XK} {lam : Scope} {f c' : Addr} {h1 : Heap} {tk : Nat} {HZ : Hp} {s1 : Shared} {own : List Str} {σ' : L2.St} {bs : List (Str × Value)} (J : Inv X pins σ H s) (L : LamP X.env.scope lam own) (ob : bs.map (·.1) = own) (st : LamSt X σ σ' bs) (e0 : Env0 X.prog X.w X.K X.mg X.base A outer s1 HZ) (calm : A.handled = none)
    (un : Un (frs X.stack) [] H HZ s.heap s1.heap) (ns1 : h1.Ns s1.heap.objs.size fun y => bs.reverse.lookup y) (kp : ∀ b o, s1.heap.get? b = some o → h1.get? b = some o) :
    Inv (lamCx X A outer s1 HZ E lam f c') [] σ' HZ { s1 with heap := h1, toks := tk } := by
  have free := L.has J.ok
  have up : ∀ {y c}, (cloFrom X.env.cells lam.names []).lookup y = some c → X.env.cells.lookup y = some c := fun {y c} e => by
    rcases cloFrom_mem (PySem.mem_of_lookup e) with hm | ⟨k1, k2⟩
    · cases hm
    · obtain ⟨c1, hc⟩ := free _ k1 rfl
      have hc : X.env.cells.lookup y = some c1 := hc
      have e2 : c = c1 := by
        rw [k2, hc] <;> rfl
      rw [e2]; exact hc
  have look : ∀ {y}, lam.names.lookup y = some .free → ∃ c, (cloFrom X.env.cells lam.names []).lookup y = some c := fun {y} hl => by
    have hy : (y, NameKind.free) ∈ lam.names := PySem.mem_of_lookup hl
    exact mem_lookup (cloFrom_has (cells := X.env.cells) (acc := []) hy)
  have cellK : ∀ {c : Addr} {v : Option Value}, H c = none → s.heap.IsCell c v → h1.IsCell c v := fun {c v} n ⟨o, ho, hd⟩ => by
    obtain ⟨sl, q⟩ := un.any ho n (by simp)
    exact ⟨_, kp _ _ q, hd⟩
  have noA : ∀ b : Addr, b ∉ (lamCx X A outer s1 HZ E lam f c').ex := fun b z => nomatch (show b ∈ ([] : List Addr) from z)
  refine ⟨⟨e0.mod, L.kind, rfl, rfl, Nat.le_refl _, fun y z c e1 e2 => J.ok.inj y z c (up e1) (up e2), fun y hy => ?_, fun y c z _ => ?_, fun _ => calm, Around.frames_deeper e0.frames, .inr ⟨rfl, rfl⟩, fun b z => absurd z (noA b), e0.bs, e0.bsz, fun b _ _ => noA b,
      fun b z => absurd z (noA b), e0.funs, e0.frf⟩,
    rfl, e0.bare, Un.kept kp, ⟨_, ns1, fun i y v e1 e2 e3 => ?_⟩, fun y c e => ?_, e0.hok.fresh (Nat.le_refl _), fun y c e => ?_, fun q hq => (nomatch (show q ∈ ([] : List (Addr × Obj)) ++ [] from hq)), e0.hok.kept kp, st.len⟩
  · have hy : lam.names.lookup y = some .cell ∨ lam.names.lookup y = some .free := hy
    rcases hy with hy | hy
    · exact absurd rfl (L.own _ (PySem.mem_of_lookup hy)).1
    · exact look hy
  · have z : false = true := z
    cases z
  · have e3 : Vis lam y := e3
    by_cases hb : y ∈ bs.map (·.1)
    · obtain ⟨u, r, q⟩ := st.own i y v e1 e2 hb
      exact ⟨u, r, .inl ⟨L.loc _ (by rw [← ob]; exact hb), q⟩⟩
    · rcases e3 with k | k | k
      · exact absurd (by rw [ob]; exact (L.own _ (PySem.mem_of_lookup k)).2 rfl) hb
      · exact absurd rfl (L.own _ (PySem.mem_of_lookup k)).1
      · obtain ⟨m, hn, hl⟩ := J.loc
        have vis : Vis X.env.scope y := (L.free _ (PySem.mem_of_lookup k) rfl).elim (fun k => .inr (.inl k)) (fun k => .inr (.inr k))
        obtain ⟨w', r, q⟩ := hl i y v e1 (st.out i y v e1 e2 hb) vis
        obtain ⟨c2, h2⟩ := look k
        refine ⟨w', r, .inr ⟨.inr k, c2, h2, ?_⟩⟩
        have c1 := up h2
        rcases q with ⟨k', _⟩ | ⟨_, c3, e', z⟩
        · have k' : X.env.scope.names.lookup y = some .local := k'
          rcases L.free _ (PySem.mem_of_lookup k) rfl with k2 | k2 <;> rw [show X.env.scope.names.lookup y = _ from k2] at k' <;> cases k'
        · rw [c1] at e'
          cases e'
          exact cellK (J.freeC y _ c1) z
  · obtain ⟨w', z⟩ := J.cell y c (up e)
    exact ⟨w', cellK (J.freeC y c (up e)) z⟩
  · obtain ⟨v, o, ho, hd⟩ := J.cell y c (up e)
    exact un.free c o ho (J.freeC y c (up e)) (by simp)
/-- it is called: bs are bound; A, outer: from where -/
theorem lam_go {A : Around} {outer : List Env} {E : XK} {lam : Scope} {f c' : Addr} {HZ : Hp} {s1 : Shared} {own : List Str} {σ' : L2.St} {bs : List (Str × Value)} {ar : Arguments} {bd : Expr} {dV dc pm ctv : Value} {k : Nat} {us : List Value} {tb : TE} {Q : VK} (J : Inv X pins σ H s) (L : LamP X.env.scope lam own) (ob : bs.map (·.1) = own) (st : LamSt X σ σ' bs) (e0 : Env0 X.prog X.w X.K X.mg X.base A outer s1 HZ)
    (un : Un (frs X.stack) [] H HZ s.heap s1.heap) (lim : s1.heap.NoLimit) (isF : s1.heap.get? f = some (PySem.W.kdv_obj "<lambda>" (X.env.qual ++ "<lambda>") ar (.expr bd) lam (cloFrom X.env.cells lam.names []) dV dc pm c' ctv)) (isC : HZ c' = some (CodeO c' (X.env.qual ++ "<lambda>")))
    (bind : BindsTo s1 (PySem.W.kdv_fn "<lambda>" (X.env.qual ++ "<lambda>") ar (.expr bd) lam (cloFrom X.env.cells lam.names []) dV dc pm (.ref c') ctv) ⟨us, []⟩ bs) (hr : Room (k + 1) A)
    (body : Room k (A.deeper (lamEnv X lam s1.heap.objs.size f c')) → PE (lamCx X A outer s1 HZ E lam f c') bd tb) (q : tb σ' HZ Q) :
    codeAny (model X.prog X.w) A (.call (.ref f) ⟨us, []⟩) (CR (L2.CX X.prog X.w) outer X.prog X.w HZ s1 Q E) s1 := by
  obtain ⟨⟨oc, vs, t, hoc, hdc, hvc⟩, _, _⟩ := e0.hok c' _ isC
  refine PySem.W.kla_callFunE hr.depth isF rfl L.co L.gen rfl ⟨c', oc, vs, t, rfl, hoc, hdc, hvc⟩ ?_
  refine bind _ _ _ _ (wpAny_newFunctionEnv (fun y hy => (L.own y hy).1) (fun y hy => L.loc _ (by rw [← ob]; exact List.mem_map.mpr ⟨y, hy, rfl⟩)) (fun h1 hns hsb => ⟨lim.fresh _ hsb, ?_⟩) L.kind)
  show codeAny _ _ (.expr bd (lamEnv X lam s1.heap.objs.size f c')) _ _
  have kp : ∀ b o, s1.heap.get? b = some o → h1.get? b = some o := fun b o e => hsb.extBut b o (Nat.ne_of_lt (Heap.lt_size e)) (Heap.get?_push_of_some _ e)
  have K := lam_enter (E := E) (f := f) (c' := c') (tk := s1.toks + bs.length) J L ob st e0 hr.hd un hns kp
  refine PySem.W.kla_codeExpr (wpAny_mono ((body (hr.deeper _)).run [] _ _ HZ Q K q) (fun v s' hq => ?_) fun e s' hq => hq)
  obtain ⟨w', H', J', rv, z⟩ := hq
  exact ⟨w', H', J'.os, J'.bare, J'.base, J'.hok, rv, z⟩
end
end TP
set_option linter.all false
set_option maxRecDepth 100000
set_option maxHeartbeats 2000000
/-! TLb: list.count, list.index of truth values; isinstance of what was caught. -/
namespace TP
open PySem PySem.Spec PyProof.Rows L2
variable [TabsOf]
section
variable {X : Cx} {c : Ctx} {E : XK}
def blsOf : List PyData → Option (List Bool)
  | [] => some []
  | .bool b :: ds => (blsOf ds).map (b :: ·)
  | _ => none
theorem blsOf_eq : ∀ {ds : List PyData} {bs : List Bool}, blsOf ds = some bs → ds = bs.map .bool
  | [], bs, e => by cases e; rfl
  | .bool b :: ds, bs, e => by
    simp only [blsOf] at e
    cases e1 : blsOf ds with
    | none => rw [e1] at e; cases e
    | some cs => rw [e1] at e; cases e; rw [blsOf_eq e1]; rfl
theorem dpall_bls {K : PySem.W.Frag} {I : Hp} : ∀ {bs : List Bool} {us : List V}, DpAll K I us (bs.map .bool) → us = bs.map V.bl
  | [], _, .nil => rfl
  | _ :: _, _, .cons h t => by cases h; rw [dpall_bls t]; rfl
def rCntB (K : PySem.W.Frag) : V → List V → Hp → VK → Prop := fun x xs H Q => ∃ (p : Addr) (bs : List Bool) (k : Bool), x = .ref p ∧ xs = [.bl k] ∧ SqL K H p (bs.map V.bl) ∧ Q (.int (bs.count k : Nat)) H
theorem flat_bls : ∀ bs : List Bool, (bs.map V.bl).all flatV = true
  | [] => rfl
  | _ :: bs => by rw [List.map_cons, List.all_cons, flat_bls bs]; rfl
theorem cnt_bls (k : Bool) : ∀ bs : List Bool, (bs.map Value.bool).countP (eqU (.bl k)) = bs.count k
  | [] => rfl
  | b :: bs => by
    rw [List.map_cons, List.countP_cons, List.count_cons, cnt_bls k bs]; rfl
theorem mt_cntB : MtR X "list.count" (rCntB X.K) := by
  intro pins s σ H x xs v us Q I rx rxs h
  obtain ⟨p, bs, k, rfl, rfl, hs, q⟩ := h
  cases rx
  obtain ⟨u, rfl, ru⟩ := rxs.one
  obtain ⟨its, rv, ⟨⟨ocl, odi, oda, osl⟩, n, ho, hc, hdn, hd⟩, _⟩ := I.list hs
  simp only at hc hd
  subst hc hd
  have e2 := rv.bls
  refine call_meets PySem.F.slot_list_count ⟨_, ho, rfl⟩ PySem.F.entry_list_count (PySem.F.args_list_count_2 _ _) (SeqAt.list_countAt p its.toArray n odi osl u (eqU (.bl k))) ⟨ho, fun y hy => mem_eqAt ru rfl rv (flat_bls bs) y (by simpa using hy), ?_⟩
  refine ⟨.int (bs.count k : Nat), H, I.tok _, ⟨s.toks, ?_⟩, q⟩
  show Value.int ((its.countP (eqU (.bl k)) : Nat) : Int) s.toks = _
  rw [e2, cnt_bls]
def countM : R → List R → Option (R × R)
  | .ol xs, [.d (.bool k)] => (blsOf xs).map fun bs => (.ol xs, .d (.int (bs.count k : Nat)))
  | _, _ => none
theorem stay_ol {p : Addr} {us : List V} {xs : List PyData} {I H : Hp} {ft : List Addr} {Q : VK} {v : V} {res : PyData} (ih : Same I H) (k1 : H p = some (.lst us)) (k2 : I p = none) (k3 : DpAll c.K I us xs)
    (q : ∀ vres I' H' gp' fr, Stp ([p] ++ ft) I H (gp' ++ fr) I' H' → (gp' ++ fr).Nodup → RepR c I' H' (.ref p) (.ol xs) gp' → RepR c I' H' vres (.d res) fr → Q vres H') (hd : Dp c.K I v res) : Q v H :=
  q v I H [p] [] ((Stp.refl (fp := [p] ++ ft) ih).less fun a ha => List.mem_append_left _ (by simpa using ha)) (by simp) (.ol k1 k2 k3) (.d hd)
theorem n_count : MOk c countM (rCntB c.K) := by
  intro I H v r1 gp vs rs ft r1' res Q ih h1 h2 nd e q
  unfold countM at e
  split at e
  · rename_i xs k
    cases e1 : blsOf xs with
    | none => rw [e1] at e; cases e
    | some bs =>
      rw [e1] at e; cases e
      obtain ⟨w, rfl, hw⟩ := one_arg h2
      cases hw with
      | d hw =>
      cases hw
      cases h1 with
      | @ol p us _ k1 k2 k3 =>
      have e3 := k3
      rw [blsOf_eq e1] at e3
      rw [dpall_bls e3] at k1 k3
      exact ⟨p, bs, k, rfl, rfl, SqL.of k1, stay_ol ih k1 k2 k3 q (.int _)⟩
  · cases e
def indexM : R → List R → Option (R × R)
  | .ol xs, [.d (.bool k)] => (blsOf xs).bind fun bs => if bs.idxOf k < bs.length then some (.ol xs, .d (.int (bs.idxOf k : Nat))) else none
  | _, _ => none
theorem n_index : MOk c indexM (rIndex c.K) := by
  intro I H v r1 gp vs rs ft r1' res Q ih h1 h2 nd e q
  unfold indexM at e
  split at e
  · rename_i xs k
    cases e1 : blsOf xs with
    | none => rw [e1] at e; cases e
    | some bs =>
      rw [e1, Option.bind_some] at e
      split at e
      · rename_i hl
        cases e
        obtain ⟨w, rfl, hw⟩ := one_arg h2
        cases hw with
        | d hw =>
        cases hw
        cases h1 with
        | @ol p us _ k1 k2 k3 =>
        have e3 := k3
        rw [blsOf_eq e1] at e3
        rw [dpall_bls e3] at k1 k3
        refine ⟨p, bs.map V.bl, .bl k, bs.idxOf k, .bl k, rfl, rfl, SqL.of k1, rfl, flat_bls bs, ?_, ?_, fun m z' hm hz => ?_, stay_ol ih k1 k2 k3 q (.int _)⟩
        · rw [List.getElem?_map, List.getElem?_eq_getElem hl, List.getElem_idxOf hl]; rfl
        · exact beq_self_eq_true k
        · rw [List.getElem?_map] at hz
          cases e4 : bs[m]? with
          | none => rw [e4] at hz; cases hz
          | some b =>
            rw [e4] at hz; cases hz
            have hml := (List.getElem?_eq_some_iff.mp e4).1
            have hb := (List.getElem?_eq_some_iff.mp e4).2
            have nb := List.not_of_lt_findIdx (p := (· == k)) (xs := bs) (i := m) hm
            show (b == k) = false
            rw [hb] at nb
            simpa using nb
      · cases e
  · cases e
/-- isinstance(e, C), e what was caught -/
theorem se_isx {a : Addr} {oe : Obj} {pn : List (Addr × Obj)} {i : Nat} {x T : Str} {D : Addr} {cv : Value} {v : V} {b : Bool} {p p1 p2 pos : Pos} (C : ExcC X.K D) (hz : Zc (.ref D) none oe) (hf : ∃ vs, oe.data = .fields vs)
    (hN : X.N[i]? = some x) (hv : Vis X.env.scope x) (hpi : i ∈ c.pi) (hpv : c.pv i = .ref a) (hk : PySem.W.kitOne X.K (.ref D) cv = some b) (rc : ∀ u, RelV v u → u = cv) (hg : Gl X "isinstance") (hm : X.mg "isinstance" = none) (pT : PE (X.suite a ((a, oe) :: pn)) (.Name T p2) (tC v))
    (hd1 : (x == ("__debug__" : Str)) = false := by decide) (hd2 : (x == ("__classdict__" : Str)) = false := by decide)
    (he : starEach [.Name x p1, .Name T p2] X.env = (false, eval (.Name x p1) X.env) :: starEach [.Name T p2] X.env := by rfl) (he2 : starEach [.Name T p2] X.env = (false, eval (.Name T p2) X.env) :: starEach [] X.env := by rfl) (hpl : (backTo pos (starEach [.Name T p2] X.env)).any (·.1) = false := by rfl) :
    SE (X.suite a ((a, oe) :: pn)) c E (.Call (.Name "isinstance" p) [.Name x p1, .Name T p2] [] pos) (cC (.bool b)) := by
  have pv1 : PE (X.suite a ((a, oe) :: pn)) (.Name x p1) (tVar i) := pe_var hN hv hd1 hd2
  refine pe_imp (pe_callB (X := X.suite a ((a, oe) :: pn)) (call_isE C hz hf) hg hm PyProof.Rows.boot_isinstance (pa_cons pv1 (pa_cons pT pa_nil he2) he) (by decide) (by decide) he hpl) fun σ H Q ⟨I, ρ, fp, G, o⟩ => ?_
  refine ⟨.ref a, ?_, ?_⟩
  · rw [G.par i hpi, hpv]
  · exact ⟨v, cv, b, rfl, rc, hk, o (.bl b) I H fp [] G (.d (.bl b)) (by simpa using G.nd) (by simpa using Stp.refl G.ih)⟩
end
end TP
set_option linter.all false
set_option maxRecDepth 100000
set_option maxHeartbeats 2000000
/-! TLc: a def that calls the lambda it got, and names what is refused. -/
namespace TP
open PySem PySem.Spec PyProof.Rows L2 LamX
variable [TabsOf]
/-- the word of a class, by its number -/
def kWord : Nat → Str
  | 1 => "BadPicture"
  | 2 => "BadSquare"
  | 3 => "BadView"
  | 4 => "BadRoom"
  | 5 => "BadWay"
  | 6 => "TooSmall"
  | 7 => "BadMoments"
  | _ => "BadText"
def kJ : List R → List R → Bool
  | [], [] => true
  | r :: ρ, q :: ρ' => (isJ q || !isJ r) && kJ ρ ρ'
  | _, _ => false
def cKind (ns : List Nat) (f : EF) : EF := fun ρ => match f ρ with
  | .ok _ ρ' => .ok (.d (.str "")) ρ'
  | .ex x ρ' => if x.row = none ∧ x.n ∈ ns ∧ kJ ρ ρ' = true then .ok (.d (.str (kWord x.n))) ρ' else .no
  | .no => .no
/-- what the def is asked: the lambda's reading, and what becomes of what it lets out -/
def TTkind (c : Ctx) (ns : List Nat) : (XK → Hp → VK → Prop) → Hp → VK → Prop := fun tl H Q =>
  tl (fun cv d H' => ∃ (n : Nat) (I' : Hp), n ∈ ns ∧ cv = .ref (c.cls n) ∧ d = none ∧ Same I' H' ∧ TabsH H' ∧ ∀ I2 H2, Stp [] I' H' [] I2 H2 → Q (.str (kWord n)) H2) H (fun _ H' => Q (.str "") H')
/-- the slots that are set -/
def pinI (σ : L2.St) : List Nat := (List.range σ.length).filter fun i => match σ[i]? with
  | some (some _) => true
  | _ => false
def pinV (σ : L2.St) (i : Nat) : V := match σ[i]? with
  | some (some v) => v
  | _ => .non
theorem pin_at {σ : L2.St} {i : Nat} {v : V} : (i ∈ pinI σ ∧ pinV σ i = v) ↔ σ[i]? = some (some v) := by
  unfold pinI pinV
  rw [List.mem_filter, List.mem_range]
  constructor
  · rintro ⟨⟨h1, h2⟩, h3⟩
    split at h2
    · rename_i w e
      rw [e] at h3
      rw [e, ← h3]
    · cases h2
  · intro h
    rw [h]
    exact ⟨⟨(List.getElem?_eq_some_iff.mp h).1, rfl⟩, rfl⟩
section
variable {X : Cx} {c : Ctx} {E : XK} {I H : Hp} {σ σ' : L2.St} {ρ ρ' : List R} {fp : List Addr}
theorem reprE_pin : ∀ {ρ ρ' : List R} {σ σ' : L2.St} {fp fp0 : List Addr} {I0 H0 : Hp}, RepE c I0 H0 σ ρ fp0 → RepE c I H σ' ρ' fp → kJ ρ ρ' = true → (∀ (i : Nat) (v : V), σ[i]? = some (some v) → σ'[i]? = some (some v)) → RepE c I H σ ρ' fp
  | [], [], [], _, _, _, _, _, .nil, h, _, _ => by
    cases h; exact .nil
  | r :: ρ, q :: ρ', o :: σ, o' :: σ', _, _, _, _, h0, h, k, s => by
    simp only [kJ, Bool.and_eq_true, Bool.or_eq_true, Bool.not_eq_true'] at k
    have st : ∀ (i : Nat) (v : V), σ[i]? = some (some v) → σ'[i]? = some (some v) := fun i v e => by simpa using s (i + 1) v (by simpa using e)
    rename_i fp1 fp0 I0 H0
    have t0 : ∃ fq, RepE c I0 H0 σ ρ fq := by
      cases h0 with
      | unset h => exact ⟨_, h⟩
      | cons _ h => exact ⟨_, h⟩
    obtain ⟨fq, h0'⟩ := t0
    cases h with
    | unset h1 => exact .unset (reprE_pin h0' h1 k.2 st)
    | @cons v _ gp _ _ fp h1 h2 =>
      by_cases hj : isJ q = true
      · cases q with
        | junk =>
          cases h1
          exact .unset (reprE_pin h0' h2 k.2 st)
        | _ => cases hj
      · have hr : isJ r = false := k.1.resolve_left hj
        cases h0 with
        | unset _ => cases hr
        | @cons w _ _ _ _ _ _ _ =>
          have := s 0 w (by simp)
          simp at this
          subst this
          exact .cons h1 (reprE_pin h0' h2 k.2 st)
  | [], q :: ρ', _, _, _, _, _, _, _, _, k, _ => by cases k
  | r :: ρ, [], _, _, _, _, _, _, _, _, k, _ => by cases k
theorem stp_sm {H1 : Hp} (ih : Same I H) (sm : Same H H1) (t : TabsH H1) : Stp [] I H [] I H1 :=
  ⟨Same.refl _, ih.trans sm, fun a o e n _ => sm.o a o e n, fun a vs e => sm.o a _ e (fun _ z => by cases z), fun _ h => (by cases h), fun _ h h' => absurd h h', sm.t, fun _ => t⟩
theorem Good.at' {pi : List Nat} {pv : Nat → V} (G : Good c I H σ ρ fp) (h : ∀ i, i ∈ pi → σ[i]? = some (some (pv i))) : Good (c.at pi pv) I H σ ρ fp := ⟨G.ih, G.rep.at', G.nd, h, G.tb⟩
/-- a() within the def that got the lambda -/
theorem pe_gotten {pins : List (Addr × Obj)} {s : Shared} {CXg : CXT} {Eg : XK} {Ng : List Str} {qg : Str} {sg : Scope} {g fa c' : Addr} {cdg dV dc pm ctv : Value} {own : List Str} {bs : List (Str × Value)} {ar : Arguments} {bd : Expr} {lam : Scope} {k : Nat} {a : Str} {pn : List (Addr × Obj)} {xe : Value → Shared → Prop} {W : WX} {E1 : XK} {tb : TE} {p1 p2 : Pos}
    (J : Inv X pins σ H s) (L : LamP X.env.scope lam own) (ob : bs.map (·.1) = own) (st : LamSt X σ σ bs) (isF : s.heap.get? fa = some (PySem.W.kdv_obj "<lambda>" (X.env.qual ++ "<lambda>") ar (.expr bd) lam (cloFrom X.env.cells lam.names []) dV dc pm c' ctv)) (nF : H fa = none) (off : fa ∉ frs X.stack)
    (bind : ∀ sB : Shared, (∀ b o, s.heap.get? b = some o → H b = none → b ∉ frs X.stack → sB.heap.get? b = some o) → BindsTo sB (PySem.W.kdv_fn "<lambda>" (X.env.qual ++ "<lambda>") ar (.expr bd) lam (cloFrom X.env.cells lam.names []) dV dc pm (.ref c') ctv) ⟨[], []⟩ bs)
    (tk : Takes ((cxOf CXg X.prog X.w X.K X.mg X.base Ng qg sg g cdg X.A X.stack s H Eg).tr pn xe) W) (hW : ∀ cls d σ' H', E1 cls d H' → W cls d σ' H') (hr : Room (k + 1) (X.A.deeper (envOfC qg sg s.heap.objs.size g cdg)))
    (body : ∀ (A : Around) (outer : List Env) (s : Shared) (H : Hp), Room k (A.deeper (lamEnv X lam s.heap.objs.size fa c')) → PE (lamCx X A outer s H E1 lam fa c') bd tb)
    (hN : Ng[0]? = some a) (hv : Vis sg a) (hd : (a == ("__debug__" : Str)) = false := by decide) (hcd : (a == ("__classdict__" : Str)) = false := by decide) :
    PE ((cxOf CXg X.prog X.w X.K X.mg X.base Ng qg sg g cdg X.A X.stack s H Eg).tr pn xe) (.Call (.Name a p1) [] [] p2) (fun σZ HZ Q => σZ[0]? = some (some (.ref fa)) ∧ HZ c' = some (CodeO c' (X.env.qual ++ "<lambda>")) ∧ tb σ HZ Q) := by
  refine ⟨fun pinsZ sZ σZ HZ Q JZ h => ?_⟩
  obtain ⟨h1, h2, h3⟩ := h
  refine wpAny_Call_Name_kw (thn ((pe_var (pos := p1) (i := 0) hN hv hd hcd).run pinsZ sZ σZ HZ (fun v H1 => v = .ref fa ∧ H1 = HZ) JZ ⟨.ref fa, h1, rfl, rfl⟩) fun u s1 ⟨v, H1, J1, r1, e1, e2⟩ => ?_)
  subst e1
  rw [e2] at J1
  obtain rfl : u = Value.ref fa := r1
  have isF1 := J1.base.keep fa _ isF nF off (fun z => nomatch (show fa ∈ ([] : List Addr) from z))
  refine PySem.W.callWith_F0 ⟨_, _, _, _, isF1⟩ ?_
  have un : Un (frs X.stack) [] H HZ s.heap s1.heap := J1.base
  have rc := lam_go (E := E1) (A := X.A.deeper (envOfC qg sg s.heap.objs.size g cdg)) (outer := envOfC qg sg s.heap.objs.size g cdg :: X.stack) (us := []) (Q := Q) J L ob st J1.env0 un J1.nolimit isF1 h2 (bind s1 fun b o e n f => J1.base.keep b o e n f (fun z => nomatch (show b ∈ ([] : List Addr) from z))) hr (fun hr' => body _ _ s1 HZ hr') h3
  have hx : Passes (L2.CX X.prog X.w) ((cxOf CXg X.prog X.w X.K X.mg X.base Ng qg sg g cdg X.A X.stack s H Eg).tr pn xe) E1 := passes_call tk hW
  refine wpAny_call (codeAny_mono rc fun r s' hq => ?_)
  cases r with
  | error e => exact hx pinsZ σZ HZ s1 e s' J1 hq
  | ok fl =>
    cases fl with
    | ret u => exact J1.after hq
    | next => exact False.elim hq
    | brk => exact False.elim hq
    | cont => exact False.elim hq
theorem kind_tt {ns : List Nat} {f : EF} {Q : VK} {H1 : Hp} (G : Good c I H σ ρ fp) (sm : Same H H1) (t1 : TabsH H1) (o : OutG c E I H fp (cKind ns f ρ) (PostE c I H fp σ Q)) :
    TTkind c ns (fun E' H' Q' => tE (c.at (pinI σ) (pinV σ)) E' f σ H' Q') H1 Q := by
  have st0 := stp_sm G.ih sm t1
  have G1 := (G.new st0).at' (pi := pinI σ) (pv := pinV σ) fun i hi => pin_at.mp ⟨hi, rfl⟩
  have st1 : Stp fp I H fp I H1 := by simpa using (Stp.refl (fp := fp) G.ih).new st0
  refine ⟨I, ρ, fp, G1, ?_⟩
  unfold cKind at o
  cases e : f ρ with
  | no => rw [e] at o; exact o.elim
  | ok r ρ' =>
    rw [e] at o
    intro v I' H' fp' fr G' rv nd st
    have G2 : Good c I' H' σ ρ' fp' := ⟨G'.ih, G'.rep.unat, G'.nd, fun i hi => G.par i hi, G'.tb⟩
    exact o (.str "") I' H' fp' [] G2 (.d (.str _)) (by simpa using G2.nd) (by simpa using (st1.trans st).less (gp := fp') fun a ha => List.mem_append_left _ ha)
  | ex x ρ' =>
    rw [e] at o
    simp only at o
    split at o
    · rename_i hx
      intro σ' I' H' fp' G' st
      unfold WishX
      rw [hx.1]
      refine ⟨x.n, I', hx.2.1, rfl, rfl, G'.ih, G'.tb, fun I2 H2 s2 => ?_⟩
      have rp : RepE c I' H' σ ρ' fp' := reprE_pin G.rep G'.rep.unat hx.2.2 fun i v hi => by
        obtain ⟨h1, h2⟩ := pin_at.mpr hi
        rw [G'.par i h1]
        show some (some (pinV σ i)) = _
        rw [h2]
      have G2 : Good c I' H' σ ρ' fp' := ⟨G'.ih, rp, G'.nd, fun i hi => G.par i hi, G'.tb⟩
      have G3 := G2.new s2
      exact o (.str (kWord x.n)) I2 H2 fp' [] G3 (.d (.str _)) (by simpa using G3.nd) (by simpa using (st1.trans st).new s2)
    · exact o.elim
theorem se_kind {x a : Str} {g cA tA : Addr} {k : Nat} {pg : Arguments} {bg : List Stmt} {sg : Scope} {dV kV doc pm cdv ct oc : Value} {an od : Option Addr} {osl : Array (Option Value)} {Ng : List Str} {ar : Arguments} {bd : Expr} {lam : Scope} {f : EF} {ns : List Nat} {p lpos pos : Pos}
    (ok : CtxOk X c) (hg : Gl X x) (hm : X.mg x = some (.ref g)) (hk : PySem.W.keepIn X.K (.ref g) = true) (lk : X.K.lookup g = some ⟨oc, od, .func (PySem.W.fnOf x x pg bg sg dV kV doc pm an cdv ct), osl⟩) (hcg : PySem.W.codeIn X.K cdv x = true) (hb : L2.Binds X.K (PySem.W.fnOf x x pg bg sg dV kV doc pm an cdv ct) [a] []) (Sg : FnScope Ng [a] sg) (hNg : Ng[0]? = some a) (hva : Vis sg a)
    (gives : GivesTo X Ng x sg g cdv bg a (X.env.qual ++ "<lambda>") (TTkind c ns)) (tab : TabB X.base X.mg cA tA) (code : X.env.code = .ref cA) (inT : (tA, X.env.qual ++ "<lambda>") ∈ TabsOf.T) (one : ∀ p ∈ TabsOf.T, p.1 = tA → p.2 = X.env.qual ++ "<lambda>") (hr : Room (k + 2) X.A) (L : LamP X.env.scope lam []) (nodef : defaultsOf ar X.env = ([], []))
    (bind : ∀ (q : Str) (cl : List (Str × Addr)) (pm cv ctv : Value), bindArgs (PySem.W.kla_fn "<lambda>" q ar bd lam cl pm cv ctv) ⟨[], []⟩ = pure [])
    (body : ∀ (A : Around) (outer : List Env) (s : Shared) (H : Hp) (E : XK) (f' c' : Addr) (pi : List Nat) (pv : Nat → V), Room k (A.deeper (lamEnv X lam s.heap.objs.size f' c')) → SE (lamCx X A outer s H E lam f' c') (c.at pi pv) E bd f)
    (hdb : (x == ("__debug__" : Str)) = false := by decide) (hd : (a == ("__debug__" : Str)) = false := by decide) (hcd : (a == ("__classdict__" : Str)) = false := by decide) (ne1 : starEach [.Lambda ar bd lam lpos] X.env = [(false, eval (.Lambda ar bd lam lpos) X.env)] := by rfl) :
    SE X c E (.Call (.Name x p) [.Lambda ar bd lam lpos] [] pos) (cKind ns f) := by
  refine ⟨fun pins s σ H Q J h => ?_⟩
  obtain ⟨I, ρ, fp, G, o⟩ := h
  refine wpAny_Call_Name_kw (ld_glob J hg hm ?_ hdb)
  refine PySem.W.callWith_K (h₀ := X.base) J.ok.mod.kin hk ?_ (by rfl) (by rfl)
  show wpAny _ _ (spliced ((false, eval (.Lambda ar bd lam lpos) X.env) :: backTo pos (starEach [] X.env))) _ _ s
  refine Calls.spliced_cons (lam_new J tab code inT one G.tb nodef (L.has J.ok) fun fa c' pm' ctv H1 s' J1 sm T1 isF nF off isC => ?_)
  refine Calls.spliced_nil ⟨J1.kIn, ?_⟩
  have rc : codeAny (model X.prog X.w) X.A (.call (.ref g) ⟨[.ref fa], []⟩) (CR C8.CX0 X.stack X.prog X.w H1 s' Q C8.E0) s' := by
    refine run_ofS (N := Ng) (ps := [a]) (us := [.ref fa]) (vs := [.ref fa]) lk hcg Sg hr J1.env0 (hb s' [.ref fa] J1.kIn rfl) (.cons rfl .nil) rfl fun hr' => ?_
    obtain ⟨t', ht', hq'⟩ := gives fa c' s' H1 Q (fun E' H' Q' => tE (c.at (pinI σ) (pinV σ)) E' f σ H' Q') (fun W pn xe E' p1 p2 tk hW => pe_gotten J1 L rfl ⟨J1.len, fun _ _ _ _ _ z => (by cases z), fun _ _ _ _ e _ => e⟩ isF nF off (fun _ _ => .of_eq (bind _ _ _ _ _)) tk hW hr' (fun A outer s H hr2 => body A outer s H E' fa c' _ _ hr2) hNg hva hd hcd) isC (kind_tt G sm T1 o)
    exact ⟨t', ht'.nox, hq'⟩
  refine wpAny_call (codeAny_mono rc fun r s2 hq => ?_)
  cases r with
  | error e => exact (show False from hq).elim
  | ok fl =>
    cases fl with
    | ret u => exact J1.after hq
    | next => exact False.elim hq
    | brk => exact False.elim hq
    | cont => exact False.elim hq
end
end TP
set_option linter.all false
set_option maxRecDepth 100000
set_option maxHeartbeats 2000000
/-! TLd: try: a() / except x as e: suite / return '' : what it makes of the lambda's reading. -/
namespace TP
open PySem PySem.Spec PyProof.Rows L2 LamX
variable [TabsOf]
theorem repE_jnk {c : Ctx} {I H : Hp} : ∀ {n : Nat} {σ : L2.St}, σ.length = n → RepE c I H σ (List.replicate n .junk) []
  | 0, [], _ => .nil
  | n + 1, o :: σ, h => .unset (repE_jnk (by simpa using h))
  | 0, _ :: _, h => by cases h
  | n + 1, [], h => by cases h
abbrev gCx (X : Cx) (Ng : List Str) (x : Str) (sg : Scope) (g : Addr) (cdg : Value) (s : Shared) (H : Hp) : Cx := (cxOf C8.CX0 X.prog X.w X.K X.mg X.base Ng x sg g cdg X.A X.stack s H C8.E0).nox
theorem gives_kind {X : Cx} {c : Ctx} {ns : List Nat} {Ng : List Str} {x a xn en q : Str} {sg : Scope} {g CS : Addr} {cdg : Value} {i j : Nat} {b0 : Stmt} {suite : List Stmt} {hT : Nat → SF} {p1 p2 p3 p4 p5 p6 p7 p8 : Pos} (Sg : FnScope Ng [a] sg) (hi : Ng[i]? = some en) (hln : sg.names.lookup en = some .local)
    (hge : sg.names.lookup xn = some .globalImplicit) (hme : X.mg xn = some (.ref CS)) (hde : (xn == ("__debug__" : Str)) = false) (h0 : ∀ f : Addr, (L2.start Ng [V.ref f])[0]? = some (some (V.ref f)))
    (exm : ∀ n, n ∈ ns → PySem.W.exmOne X.K (.ref (c.cls n)) (.ref CS) = some true)
    (hsuite : ∀ n, n ∈ ns → ∀ (s : Shared) (H : Hp) (aE : Addr) (oe : Obj) (pn : List (Addr × Obj)), Zc (.ref (c.cls n)) none oe → (∃ vs, oe.data = .fields vs) → SSs ((gCx X Ng x sg g cdg s H).suite aE ((aE, oe) :: pn)) (c.at [i] fun _ => .ref aE) C8.E0 (b0 :: suite) (hT n))
    (heval : ∀ n, n ∈ ns → ∃ ρ', hT n (List.replicate Ng.length .junk) = .ok (.rt (.d (.str (kWord n)))) ρ') :
    GivesTo X Ng x sg g cdg [.Try [.Expr (.Call (.Name a p1) [] [] p2) p3] [.ExceptHandler (some (.Name xn p4)) (some en) (b0 :: suite) p5] [] [] p6, .Return (some (.Constant (.str "") j p7)) p8] a q (TTkind c ns) := by
  intro f c' s H Q tl act hc h
  have hgl : Gl (gCx X Ng x sg g cdg s H) xn := hge
  refine ⟨_, pss_cons (ps_try_as (X := gCx X Ng x sg g cdg s H) (i := i) (c := .ref CS) (Wout := fun _ _ _ _ => False)
      (tb := fun W D σ H => ∃ Ech : XK, (∀ cls d σ' H', Ech cls d H' → W cls d σ' H') ∧ σ[0]? = some (some (.ref f)) ∧ H c' = some (CodeO c' q) ∧ tl Ech H (fun _ H' => D.nx σ H'))
      (ts := fun aE cls d D σ H => (∃ σ0 : L2.St, σ = σ0.set i (some (.ref aE))) ∧ ∃ (n : Nat) (I' : Hp), n ∈ ns ∧ cls = .ref (c.cls n) ∧ d = none ∧ Same I' H ∧ TabsH H ∧ ∀ I2 H2, Stp [] I' H [] I2 H2 → D.rt (.str (kWord n)) H2)
      rfl rfl Sg.nd hi hln ⟨hgl, hde, .inl hme⟩ L2.takes0 (fun W pn xe tk _ => ?_) (fun aE oe cls d pn hz hf => ?_)) (pss_one (ps_ret pe_str)), ?_⟩
  · refine ⟨fun pins s' σ H' D J h' => ?_⟩
    obtain ⟨Ech, hW, h1, h2, h3⟩ := h'
    exact (pss_one (ps_expr (act W pn xe Ech p1 p2 tk hW))).run pins s' σ H' D J ⟨h1, h2, h3⟩
  · refine ⟨fun pins s' σ H' D J h' => ?_⟩
    obtain ⟨⟨σ0, eσ⟩, n, I', hn, e1, e2, sm, tb, fin⟩ := h'
    subst e1 e2
    have len : σ.length = Ng.length := J.len
    have hil : i < σ0.length := by
      have z := (List.getElem?_eq_some_iff.mp hi).1
      rw [eσ, List.length_set] at len
      omega
    refine (hsuite n hn s H aE oe pn hz hf).run pins s' σ H' D J ⟨I', List.replicate Ng.length .junk, [], ⟨sm, repE_jnk len, List.nodup_nil, fun k hk => ?_, tb⟩, ?_⟩
    · rw [List.mem_singleton.mp hk, eσ, List.getElem?_set_self hil]; rfl
    · obtain ⟨ρ', e⟩ := heval n hn
      rw [e]
      intro v σ' I2 H2 fp' fr G' rv nd st
      cases rv with
      | d hd =>
        cases hd
        exact fin I2 H2 (st.less fun _ z => by cases z)
  · refine ⟨_, fun cls d σ' H' z => ?_, h0 f, hc, h⟩
    obtain ⟨n, I', hn, e1, e2, sm, tb, fin⟩ := z
    refine ⟨true, ?_, fun _ aE _ => ⟨⟨σ', rfl⟩, n, I', hn, e1, e2, sm, tb, fin⟩, fun z => Bool.noConfusion z⟩
    rw [e1]
    exact exm n hn
end TP
set_option linter.all false
set_option maxRecDepth 100000
set_option maxHeartbeats 2000000
/-! TPx: the law's own call. -/
namespace TP
open PySem PySem.Spec PyProof.Rows L2
variable [TabsOf]
def spLaw (K : PySem.W.Frag) : Sp := fun vs H Q _ => ∃ (a : Addr) (ns : List Int), vs = [.ref a] ∧ ns.length ≤ 63 ∧ SqL K H a (ns.map V.int) ∧ TabsH H ∧ ∀ H', Q (.bl true) H'
theorem dp_ints {K : PySem.W.Frag} {H : Hp} : ∀ ns : List Int, DpAll K H (ns.map V.int) (ns.map PyData.int)
  | [] => .nil
  | n :: ns => .cons (.int n) (dp_ints ns)
theorem law_in {c : Ctx} {g : GF} {vs : List V} {H : Hp} {Q : VK} {E : XK} (hg : ∀ ns : List Int, ns.length ≤ 63 → ∃ rs', g [.d (.list (ns.map .int))] = .ok (.d (.bool true)) rs') (h : spLaw c.K vs H Q E) : spG c g vs H Q E := by
  obtain ⟨a, ns, rfl, hl, hs, ht, q⟩ := h
  obtain ⟨rs', e⟩ := hg ns hl
  refine ⟨H, [.d (.list (ns.map .int))], [], Same.refl _, ht, .cons (gp := []) (fp := []) (.d (.lst hs (dp_ints ns))) .nil, List.nodup_nil, ?_⟩
  rw [e]
  intro v I' H' fp' fr _ _ hv _ _
  cases hv with
  | d hd => cases hd; exact q _
end TP
namespace TP
open PySem PySem.Spec PyProof.Rows L2
@[reducible] def noTabs : TabsOf := ⟨[]⟩
theorem noTabs_h (H : Hp) : @TabsH noTabs H := fun _ h => nomatch h
end TP
set_option linter.all false
set_option maxRecDepth 100000
set_option maxHeartbeats 2000000
/-! TLe: a def whose code object is known; x(lambda: e) by the def's facts. -/
namespace TP
open PySem PySem.Spec PyProof.Rows L2 LamX
variable [TabsOf]
theorem boot_ValueErrorT : bootBuiltins "ValueError" = some (.type "ValueError") := by decide +kernel
structure FunC (K : PySem.W.Frag) (x qual : Str) (st : Stmt) (f : Addr) (fd : FuncData) (cdv : Value) : Prop where
  ex : ∃ (oc : Value) (od : Option Addr) (kV doc pm : Value) (an : Option Addr) (ct : Value) (osl : Array (Option Value)), fd = PySem.W.fnOf x qual (defArgs st) (defBody st) (defScope st) .none kV doc pm an cdv ct ∧ K.lookup f = some ⟨oc, od, .func fd, osl⟩ ∧ PySem.W.codeIn K cdv qual = true
  kp : PySem.W.keepIn K (.ref f) = true
theorem func_mk {K : PySem.W.Frag} {x qual : Str} {st : Stmt} {f : Addr} {oc : Value} {od an : Option Addr} {osl : Array (Option Value)} {kV doc pm cdv ct : Value} (l : K.lookup f = some ⟨oc, od, .func (PySem.W.fnOf x qual (defArgs st) (defBody st) (defScope st) .none kV doc pm an cdv ct), osl⟩)
    (c : PySem.W.codeIn K cdv qual = true) (k : PySem.W.keepIn K (.ref f) = true) : FunC K x qual st f (PySem.W.fnOf x qual (defArgs st) (defBody st) (defScope st) .none kV doc pm an cdv ct) cdv := ⟨⟨oc, od, kV, doc, pm, an, ct, osl, rfl, l, c⟩, k⟩
section
variable {P : Program} {w : World} {mg : Str → Option Value} {base : Heap} {c : Ctx}
theorem def_isC {x qual : Str} {st : Stmt} {f : Addr} {fd : FuncData} {cdv : Value} {N ps : List Str} {k : Nat} {s : SF} (hcP : c.prog = P) (hcw : c.wo = w) (hsch : ∀ n, (c.sch n).Nodup) (F : FunC c.K x qual st f fd cdv) (S : FnScope N ps (defScope st))
    (hb : ∀ (A : Around) (outer : List Env) (sh : Shared) (H : Hp) (E : XK) (pv : Nat → V), Room k (A.deeper (envOfC qual (defScope st) sh.heap.objs.size f cdv)) →
      CtxOk (cxOf (L2.CX P w) P w c.K mg base N qual (defScope st) f cdv A outer sh H E) (c.at (List.range ps.length) pv) →
      Takes (cxOf (L2.CX P w) P w c.K mg base N qual (defScope st) f cdv A outer sh H E) (fun cls d _ H => E cls d H) →
      Passes (L2.CX P w) (cxOf (L2.CX P w) P w c.K mg base N qual (defScope st) f cdv A outer sh H E) E →
      PassesOwn (model P w) (A.deeper (envOfC qual (defScope st) sh.heap.objs.size f cdv)) (envOfC qual (defScope st) sh.heap.objs.size f cdv) (cxOf (L2.CX P w) P w c.K mg base N qual (defScope st) f cdv A outer sh H E).xe →
      (A.deeper (envOfC qual (defScope st) sh.heap.objs.size f cdv)).units + 64 < cLine → (A.deeper (envOfC qual (defScope st) sh.heap.objs.size f cdv)).units + 65 < cLine →
      SSs (cxOf (L2.CX P w) P w c.K mg base N qual (defScope st) f cdv A outer sh H E) (c.at (List.range ps.length) pv) E (defBody st) s) :
    FnOk P w c.K mg base (L2.CX P w) (k + 1) f fd ps (spG c (runG s N.length ps.length)) := by
  obtain ⟨oc, od, kV, doc, pm, an, ct, osl, rfl, lk, hcd⟩ := F.ex
  refine fn_of lk hcd S (fun vs H Q E h => runG_len h) fun A outer sh H vs Q E hr h => ?_
  have tk : Takes (cxOf (L2.CX P w) P w c.K mg base N qual (defScope st) f cdv A outer sh H E) (fun cls d _ H => E cls d H) := takes_of rfl rfl rfl rfl
  exact ⟨tS (c.at (List.range ps.length) fun i => vs.getD i .non) E s, hb A outer sh H E _ hr ⟨rfl, hsch, hcP.symm, hcw.symm⟩ tk (passes_call tk fun _ _ _ _ h => h) (passes_of rfl) hr.units (by have := hr.un; omega),
    body_run (c := c.at (List.range ps.length) fun i => vs.getD i .non) (spG_at (c := c.at (List.range ps.length) fun i => vs.getD i .non) (pi := c.pi) (pv := c.pv) h) rfl fun i v hv => by
      show vs.getD i .non = v
      rw [List.getD_eq_getElem?_getD, hv]; rfl⟩
end
section
variable {X : Cx} {c : Ctx} {E : XK}
theorem CtxOk.at' {X : Cx} {c : Ctx} {pi : List Nat} {pv : Nat → V} (ok : CtxOk X c) : CtxOk X (c.at pi pv) := ⟨ok.k, ok.sch, ok.pr, ok.wo⟩
theorem CtxOk.lam {A : Around} {outer : List Env} {s : Shared} {H : Hp} {E' : XK} {lam : Scope} {f c' : Addr} {pi : List Nat} {pv : Nat → V} (ok : CtxOk X c) : CtxOk (lamCx X A outer s H E' lam f c') (c.at pi pv) := ⟨ok.k, ok.sch, ok.pr, ok.wo⟩
theorem lam_takes {A : Around} {outer : List Env} {s : Shared} {H : Hp} {E' : XK} {lam : Scope} {f c' : Addr} : Takes (lamCx X A outer s H E' lam f c') (fun cls d _ H => E' cls d H) := takes_of rfl rfl rfl rfl
theorem lam_passes {A : Around} {outer : List Env} {s : Shared} {H : Hp} {E' : XK} {lam : Scope} {f c' : Addr} : Passes (L2.CX (lamCx X A outer s H E' lam f c').prog (lamCx X A outer s H E' lam f c').w) (lamCx X A outer s H E' lam f c') E' := passes_call lam_takes fun _ _ _ _ h => h
theorem se_kindF {x a : Str} {st : Stmt} {g cA tA : Addr} {fd : FuncData} {k : Nat} {Ng : List Str} {ar : Arguments} {bd : Expr} {lam : Scope} {f : EF} {ns : List Nat} {p lpos pos : Pos}
    (ok : CtxOk X c) (hg : Gl X x) (hm : X.mg x = some (.ref g)) (F : Fun X.K x x st g fd) (hb : L2.Binds X.K fd [a] []) (Sg : FnScope Ng [a] (defScope st)) (hNg : Ng[0]? = some a) (hva : Vis (defScope st) a)
    (gives : ∀ (q : Str) (cdg : Value), GivesTo X Ng x (defScope st) g cdg (defBody st) a q (TTkind c ns)) (tab : TabB X.base X.mg cA tA) (code : X.env.code = .ref cA) (inT : (tA, X.env.qual ++ "<lambda>") ∈ TabsOf.T) (one : ∀ p ∈ TabsOf.T, p.1 = tA → p.2 = X.env.qual ++ "<lambda>") (hr : Room (k + 2) X.A) (L : LamP X.env.scope lam []) (nodef : defaultsOf ar X.env = ([], []))
    (bind : ∀ (q : Str) (cl : List (Str × Addr)) (pm cv ctv : Value), bindArgs (PySem.W.kla_fn "<lambda>" q ar bd lam cl pm cv ctv) ⟨[], []⟩ = pure [])
    (body : ∀ (A : Around) (outer : List Env) (s : Shared) (H : Hp) (E : XK) (f' c' : Addr) (pi : List Nat) (pv : Nat → V), Room k (A.deeper (lamEnv X lam s.heap.objs.size f' c')) → SE (lamCx X A outer s H E lam f' c') (c.at pi pv) E bd f)
    (hdb : (x == ("__debug__" : Str)) = false := by decide) (hd : (a == ("__debug__" : Str)) = false := by decide) (hcd : (a == ("__classdict__" : Str)) = false := by decide) (ne1 : starEach [.Lambda ar bd lam lpos] X.env = [(false, eval (.Lambda ar bd lam lpos) X.env)] := by rfl) :
    SE X c E (.Call (.Name x p) [.Lambda ar bd lam lpos] [] pos) (cKind ns f) := by
  obtain ⟨oc, od, kV, doc, pm, an, cdv, ct, osl, e, lk, hcd2⟩ := F.ex
  subst e
  exact se_kind ok hg hm F.kp lk hcd2 hb Sg hNg hva (gives _ cdv) tab code inT one hr L nodef bind body hdb hd hcd ne1
end
end TP
set_option linter.all false
set_option maxRecDepth 100000
set_option maxHeartbeats 4000000
noncomputable section
namespace TL
open PySem PySem.Spec PyProof.Rows L2 TP
variable [TabsOf]
def c_MOST_LEVELS : PyData := .int 6
def c_MOST_WANTED : PyData := .int 16
def c_SIDES : PyData := .tuple [.int 1, .int 2, .int 4, .int 8, .int 16, .int 32]
def c_WHOLE : PyData := .tuple [.int 0, .int 0, .int 0]
def c_FIGURES : PyData := .str "0123456789"
def c_MOST_FIGURES : PyData := .int 2
def c_MOST_ROOM : PyData := .int 40
def c_MOST_VIEWS : PyData := .int 12
def p_need_levels : SF := cIte (fNot (cTb (cChain (fun i j => decide (i ≤ j)) (fun i j => decide (i ≤ j)) (cC (.int 1)) (cVar 0) (cC c_MOST_LEVELS)))) (cRaise 1) (cNx)
def g_need_levels : GF := runG p_need_levels 1 1
def p_is_square : SF := cSeq (cAsg (cVar 1) (gT [gN 2, gN 3, gN 4]))
  (cRet (cAnd (cChain (fun i j => decide (i ≤ j)) (fun i j => decide (i < j)) (cC (.int 0)) (cVar 2) (cVar 0)) (cAnd (cChain (fun i j => decide (i ≤ j)) (fun i j => decide (i < j)) (cC (.int 0)) (cVar 3) (cN ixK [.c c_SIDES, .s 2])) (cChain (fun i j => decide (i ≤ j)) (fun i j => decide (i < j)) (cC (.int 0)) (cVar 4) (cN ixK [.c c_SIDES, .s 2])))))
def g_is_square : GF := runG p_is_square 5 2
def p_need_square : SF := cIte (fNot (cTb (cCall g_is_square [.s 0, .s 1]))) (cRaise 2) (cNx)
def g_need_square : GF := runG p_need_square 2 2
def p_elders_of : SF := cSeq (cSet 1 (cLst []))
  (cSeq (cAsg (cVar 0) (gT [gN 2, gN 3, gN 4]))
  (cSeq (cWhile (cTb (cN gtK [.s 2, .c (.int 0)])) (cSeq (cPar3 2 3 4 [.e (cN subK [.s 2, .c (.int 1)]), .e (cN fdivK [.s 3, .c (.int 2)]), .e (cN fdivK [.s 4, .c (.int 2)])])
  (cDrop (cMut 1 [] isList appendM [.e (cTup [.e (cVar 2), .e (cVar 3), .e (cVar 4)])]))) 64)
  (cRet (cMv 1))))
def g_elders_of : GF := runG p_elders_of 5 1
def p_elders : SF := cSeq (cDrop (cCall g_need_levels [.s 0]))
  (cSeq (cDrop (cCall g_need_square [.s 0, .s 1]))
  (cRet (cCall g_elders_of [.s 1])))
def g_elders : GF := runG p_elders 2 2
def p_is_view : SF := cSeq (cAsg (cVar 1) (gT [gN 2, gN 3, gN 4, gN 5, gN 6]))
  (cSeq (cIte (fOr (fNot (cTb (cChain (fun i j => decide (i ≤ j)) (fun i j => decide (i < j)) (cC (.int 0)) (cVar 2) (cVar 0)))) (fOr (cTb (cN ltK [.s 3, .c (.int 0)])) (fOr (cTb (cN ltK [.s 4, .c (.int 0)])) (fOr (cTb (cN ltK [.s 5, .c (.int 1)])) (fOr (cTb (cN ltK [.s 6, .c (.int 1)])) (cTb (cN gtK [.e (cN mulK [.s 5, .s 6]), .c c_MOST_WANTED]))))))) (cRet (cC (.bool false))) (cNx))
  (cRet (cAnd (cN leK [.e (cN addK [.s 3, .s 5]), .e (cN ixK [.c c_SIDES, .s 2])]) (cN leK [.e (cN addK [.s 4, .s 6]), .e (cN ixK [.c c_SIDES, .s 2])]))))
def g_is_view : GF := runG p_is_view 7 2
def p_need_view : SF := cIte (fNot (cTb (cCall g_is_view [.s 0, .s 1]))) (cRaise 3) (cNx)
def g_need_view : GF := runG p_need_view 2 2
def p_wanted_of : SF := cSeq (cAsg (cVar 0) (gT [gN 1, gN 2, gN 3, gN 4, gN 5]))
  (cSeq (cSet 6 (cLst []))
  (cSeq (cFor (sRng rng2 [.s 2, .e (cN addK [.s 2, .s 4])]) (gN 7) (cDrop (cMut 6 [] isList extendM [.e (cComp (sRng rng2 [.s 3, .e (cN addK [.s 3, .s 5])]) [8] (gN 8) (fYes) (cTup [.e (cVar 1), .e (cVar 7), .e (cVar 8)]))])))
  (cRet (cMv 6))))
def g_wanted_of : GF := runG p_wanted_of 9 1
def p_wanted : SF := cSeq (cDrop (cCall g_need_levels [.s 0]))
  (cSeq (cDrop (cCall g_need_view [.s 0, .s 1]))
  (cRet (cCall g_wanted_of [.s 1])))
def g_wanted : GF := runG p_wanted 2 2
def p__law_mix : SF := cSeq (cSet 2 (cVar 1))
  (cSeq (cFor (sList (cVar 0)) (gN 3) (cSet 2 (cN modK [.e (cN addK [.e (cN addK [.e (cN mulK [.s 2, .c (.int 48271)]), .e (cN modK [.s 3, .c (.int 2147483629)])]), .c (.int 1)]), .c (.int 2147483647)])))
  (cRet (cLst [.e (cVar 2), .e (cN listK [.s 0]), .c (.int 0)])))
def g__law_mix : GF := runG p__law_mix 4 2
def p__law_next : SF := cSeq (cSet 2 (cN modK [.e (cGet 0 [(.ix, 2)]), .e (cN maxK [.c (.int 1), .e (cN lenK [.p 0 [(.ix, 1)]])])]))
  (cSeq (cSet 3 (cIf (cTb (cNil true 0 [(.ix, 1)])) (cN ixK [.p 0 [(.ix, 1)], .s 2]) (cC (.int 0))))
  (cSeq (cIte (cTb (cN geK [.s 3, .e (cN powK [.c (.int 10), .c (.int 18)])])) (cSeq (cStore 0 [(.ix, 1)] (.s 2) stL (cN fdivK [.s 3, .s 1]))
  (cRet (cN modK [.s 3, .s 1]))) (cNx))
  (cSeq (cStore 0 [] (.c (.int 0)) stL (cN modK [.e (cN addK [.e (cN addK [.e (cN mulK [.p 0 [(.ix, 0)], .c (.int 48271)]), .e (cN mulK [.s 3, .c (.int 69621)])]), .c (.int 11)]), .c (.int 2147483647)]))
  (cSeq (cStore 0 [] (.c (.int 2)) stL (cN addK [.p 0 [(.ix, 2)], .c (.int 1)]))
  (cRet (cN modK [.e (cN fdivK [.p 0 [(.ix, 0)], .c (.int 7)]), .s 1]))))))
def g__law_next : GF := runG p__law_next 4 2
def p__law_alike (g : GF) : SF := cSeq (cIte (cTb (cN (isi2K 0 1) [.s 1])) (cSeq (cIte (fOr (fNot (cTb (cN (isi2K 0 1) [.s 0]))) (cTb (cN neK [.e (cN (isiK 1) [.s 0]), .e (cN (isiK 1) [.s 1])]))) (cRet (cC (.bool false))) (cNx))
  (cSeq (cIte (cTb (cN neK [.e (cN lenK [.s 0]), .e (cN lenK [.s 1])])) (cRet (cC (.bool false))) (cNx))
  (cRet (cN eqK [.e (cComp (sRng rng1 [.e (cN lenK [.s 1])]) [2] (gN 2) (fNot (cTb (cPeek g [.e (cFz (cN ixK [.s 0, .s 2])), .e (cFz (cN ixK [.s 1, .s 2]))]))) (cVar 2)), .e (cLst [])])))) (cNx))
  (cSeq (cIte (cTb (cN isK [.s 1, .c .none])) (cRet (cN isK [.s 0, .c .none])) (cNx))
  (cSeq (cIte (cTb (cN (isiK 2) [.s 1])) (cRet (cAnd (cN (isiK 2) [.s 0]) (cN eqK [.s 0, .s 1]))) (cNx))
  (cSeq (cIte (fOr (cTb (cN (isiK 3) [.s 1])) (cTb (cN (isiK 3) [.s 0]))) (cRet (cAnd (cN (isiK 3) [.s 1]) (cAnd (cN (isiK 3) [.s 0]) (cN eqK [.s 0, .s 1])))) (cNx))
  (cRet (cAnd (cN (isiK 4) [.s 0]) (cN eqK [.s 0, .s 1]))))))
def g__law_alike : Nat → GF
  | 0 => fun _ => .no
  | n + 1 => runG (p__law_alike (g__law_alike n)) 3 2
def p__law_side : SF := cRet (cN ixK [.e (cFz (cLst [.c (.int 1), .c (.int 2), .c (.int 4), .c (.int 8), .c (.int 16), .c (.int 32)])), .s 0])
def g__law_side : GF := runG p__law_side 1 1
def p__law_view : SF := cSeq (cSet 2 (cN ixK [.e (cFz (cLst [.e (cN subK [.s 1, .c (.int 1)]), .e (cCall g__law_next [.s 0, .s 1])])), .e (cCall g__law_next [.s 0, .c (.int 2)])]))
  (cSeq (cSet 3 (cCall g__law_side [.s 2]))
  (cSeq (cSet 4 (cN addK [.c (.int 1), .e (cCall g__law_next [.s 0, .e (cN minK [.s 3, .e (cN ixK [.e (cFz (cLst [.c (.int 4), .c (.int 16)])), .e (cN fdivK [.e (cCall g__law_next [.s 0, .c (.int 6)]), .c (.int 5)])])])])]))
  (cSeq (cSet 5 (cN addK [.c (.int 1), .e (cCall g__law_next [.s 0, .e (cN minK [.s 3, .e (cN fdivK [.c (.int 16), .s 4]), .e (cN addK [.c (.int 4), .e (cN mulK [.c (.int 12), .e (cN intK [.e (cN eqK [.s 4, .c (.int 1)])])])])])])]))
  (cRet (cTup [.e (cVar 2), .e (cCall g__law_next [.s 0, .e (cN addK [.e (cN subK [.s 3, .s 4]), .c (.int 1)])]), .e (cCall g__law_next [.s 0, .e (cN addK [.e (cN subK [.s 3, .s 5]), .c (.int 1)])]), .e (cVar 4), .e (cVar 5)])))))
def g__law_view : GF := runG p__law_view 6 2
def p__law_wants : SF := cSeq (cAsg (cVar 0) (gT [gN 1, gN 2, gN 3, gN 4, gN 5]))
  (cRet (cComp (sRng rng1 [.e (cN mulK [.s 4, .s 5])]) [6] (gN 6) (fYes) (cTup [.e (cVar 1), .e (cN addK [.s 2, .e (cN fdivK [.s 6, .s 5])]), .e (cN addK [.s 3, .e (cN modK [.s 6, .s 5])])])))
def g__law_wants : GF := runG p__law_wants 7 1
def p__law_over : SF := cSeq (cSet 2 (cCall g__law_side [.e (cN subK [.e (cN ixK [.s 0, .c (.int 0)]), .s 1])]))
  (cRet (cTup [.e (cVar 1), .e (cN fdivK [.e (cN ixK [.s 0, .c (.int 1)]), .s 2]), .e (cN fdivK [.e (cN ixK [.s 0, .c (.int 2)]), .s 2])]))
def g__law_over : GF := runG p__law_over 3 2
def p__law_is_view : SF := cSeq (cAsg (cVar 1) (gT [gN 2, gN 3, gN 4, gN 5, gN 6]))
  (cSeq (cIte (fOr (fNot (cTb (cChain (fun i j => decide (i ≤ j)) (fun i j => decide (i < j)) (cC (.int 0)) (cVar 2) (cVar 0)))) (fOr (cTb (cN ltK [.e (cN minK [.s 3, .s 4]), .c (.int 0)])) (fOr (cTb (cN ltK [.e (cN minK [.s 5, .s 6]), .c (.int 1)])) (cTb (cN gtK [.e (cN mulK [.s 5, .s 6]), .c (.int 16)]))))) (cRet (cC (.bool false))) (cNx))
  (cRet (cN leK [.e (cN maxK [.e (cN addK [.s 3, .s 5]), .e (cN addK [.s 4, .s 6])]), .e (cCall g__law_side [.s 2])])))
def g__law_is_view : GF := runG p__law_is_view 7 2
def p__law_odd : SF := cSeq (cSet 2 (cN listK [.e (cCall g__law_view [.s 0, .s 1])]))
  (cSeq (cSet 3 (cCall g__law_next [.s 0, .e (cN powK [.c (.int 10), .c (.int 6)])]))
  (cSeq (cSet 4 (cCall g__law_next [.s 0, .c (.int 5)]))
  (cSeq (cStore 2 [] (.s 4) stL (cN ixK [.e (cFz (cLst [.e (cN addK [.e (cN ixK [.s 2, .s 4]), .c (.int 1)]), .e (cN subK [.e (cN negK [.c (.int 1)]), .s 3]), .e (cN addK [.c (.int 16), .s 3]), .c (.int 0), .e (cN subK [.e (cN ixK [.s 2, .s 4]), .c (.int 1)])])), .e (cCall g__law_next [.s 0, .c (.int 5)])]))
  (cRet (cN tupleK [.s 2])))))
def g__law_odd : GF := runG p__law_odd 5 2
def p_need_room : SF := cIte (fNot (cTb (cChain (fun i j => decide (i ≤ j)) (fun i j => decide (i ≤ j)) (cC (.int 1)) (cVar 0) (cC c_MOST_ROOM)))) (cRaise 4) (cNx)
def g_need_room : GF := runG p_need_room 1 1
def p_shown_by : SF := cRet (cN ixK [.e (cComp (sList (cN addK [.e (cLst [.e (cVar 1)]), .e (cCall g_elders_of [.s 1])])) [2] (gN 2) (cTb (cN inK [.s 2, .s 0])) (cVar 2)), .c (.int 0)])
def g_shown_by : GF := runG p_shown_by 3 2
def p__law_near : SF := cSeq (cAsg (cVar 2) (gT [gN 3, gN 4, gN 5, gN 6, gN 7]))
  (cSeq (cSet 8 (cCall g__law_next [.s 0, .c (.int 6)]))
  (cSeq (cIte (cTb (cN eqK [.s 8, .c (.int 5)])) (cRet (cCall g__law_view [.s 0, .s 1])) (cNx))
  (cSeq (cIte (cTb (cN ltK [.s 8, .c (.int 3)])) (cSeq (cSet 4 (cN minK [.e (cN maxK [.c (.int 0), .e (cN subK [.e (cN addK [.s 4, .e (cCall g__law_next [.s 0, .c (.int 3)])]), .c (.int 1)])]), .e (cN subK [.e (cCall g__law_side [.s 3]), .s 6])]))
  (cSeq (cSet 5 (cN minK [.e (cN maxK [.c (.int 0), .e (cN subK [.e (cN addK [.s 5, .e (cCall g__law_next [.s 0, .c (.int 3)])]), .c (.int 1)])]), .e (cN subK [.e (cCall g__law_side [.s 3]), .s 7])]))
  (cRet (cTup [.e (cVar 3), .e (cVar 4), .e (cVar 5), .e (cVar 6), .e (cVar 7)])))) (cNx))
  (cSeq (cIte (fAnd (cTb (cN eqK [.s 8, .c (.int 3)])) (cTb (cN gtK [.s 3, .c (.int 0)]))) (cRet (cTup [.e (cN subK [.s 3, .c (.int 1)]), .e (cN fdivK [.s 4, .c (.int 2)]), .e (cN fdivK [.s 5, .c (.int 2)]), .c (.int 1), .c (.int 1)])) (cNx))
  (cSeq (cIte (fAnd (cTb (cN eqK [.s 8, .c (.int 4)])) (cTb (cN ltK [.e (cN addK [.s 3, .c (.int 1)]), .s 1]))) (cRet (cTup [.e (cN addK [.s 3, .c (.int 1)]), .e (cN mulK [.c (.int 2), .s 4]), .e (cN mulK [.c (.int 2), .s 5]), .e (cN minK [.s 6, .c (.int 4)]), .e (cN minK [.s 7, .c (.int 4)])])) (cNx))
  (cRet (cMv 2)))))))
def g__law_near : GF := runG p__law_near 9 3
def p__law_shown : SF := cSeq (cSet 2 (cLst []))
  (cSeq (cFor (sList (cCall g__law_wants [.s 0])) (gN 3) (cSeq (cSet 4 (cComp (sRng rng1 [.e (cN addK [.e (cN ixK [.s 3, .c (.int 0)]), .c (.int 1)])]) [5] (gN 5) (cTb (cN inK [.e (cCall g__law_over [.s 3, .s 5]), .s 1])) (cVar 5)))
  (cDrop (cMut 2 [] isList appendM [.e (cTup [.e (cVar 3), .e (cCall g__law_over [.s 3, .e (cN maxK [.s 4])])])]))))
  (cRet (cMv 2)))
def g__law_shown : GF := runG p__law_shown 6 2
def p__law_square : SF := cSeq (cSet 2 (cN addK [.c (.int 1), .e (cCall g__law_next [.s 0, .e (cN subK [.s 1, .c (.int 1)])])]))
  (cRet (cTup [.e (cVar 2), .e (cCall g__law_next [.s 0, .e (cCall g__law_side [.s 2])]), .e (cCall g__law_next [.s 0, .e (cCall g__law_side [.s 2])])]))
def g__law_square : GF := runG p__law_square 3 2
def p_needs_of : SF := cRet (cComp (sList (cCall g_wanted_of [.s 0])) [1] (gN 1) (cTb (cN neK [.s 1, .c c_WHOLE])) (cVar 1))
def g_needs_of : GF := runG p_needs_of 2 1
def p_need_way : SF := cSeq (cDrop (cCall g_need_levels [.s 0]))
  (cSeq (cDrop (cCall g_need_room [.s 1]))
  (cSeq (cIte (fNot (cTb (cChain (fun i j => decide (i ≤ j)) (fun i j => decide (i ≤ j)) (cC (.int 1)) (cN lenK [.s 2]) (cC c_MOST_VIEWS)))) (cRaise 5) (cNx))
  (cSeq (cFor (sList (cVar 2)) (gN 3) (cDrop (cCall g_need_view [.s 0, .s 3])))
  (cIte (cTb (cN neK [.e (cComp (sList (cVar 2)) [3] (gN 3) (cTb (cN gtK [.e (cN lenK [.e (cCall g_needs_of [.s 3])]), .s 1])) (cVar 3)), .e (cLst [])])) (cRaise 6) (cNx)))))
def g_need_way : GF := runG p_need_way 4 3
def p_next_use : SF := cRet (cN minDefK [.e (cComp (sRng rng2 [.e (cN addK [.s 1, .c (.int 1)]), .e (cN lenK [.s 0])]) [3] (gN 3) (cTb (cN inK [.s 2, .e (cN ixK [.s 0, .s 3])])) (cVar 3)), .e (cN lenK [.s 0])])
def g_next_use : GF := runG p_next_use 4 3
def p__law_way : SF := cSeq (cSet 3 (cLst [.e (cCall g__law_view [.s 0, .s 1])]))
  (cSeq (cFor (sRng rng1 [.e (cCall g__law_next [.s 0, .s 2])]) (gN 4) (cDrop (cMut 3 [] isList appendM [.e (cCall g__law_near [.s 0, .s 1, .e (cN ixK [.s 3, .e (cN subK [.e (cN negK [.c (.int 1)]), .e (cCall g__law_next [.s 0, .e (cN minK [.c (.int 2), .e (cN lenK [.s 3])])])])])])])))
  (cRet (cMv 3)))
def g__law_way : GF := runG p__law_way 5 3
def p__law_needs : SF := cRet (cComp (sList (cVar 0)) [1] (gN 1) (fYes) (cComp (sList (cCall g__law_wants [.s 1])) [2] (gN 2) (cTb (cN neK [.s 2, .e (cTup [.c (.int 0), .c (.int 0), .c (.int 0)])])) (cVar 2)))
def g__law_needs : GF := runG p__law_needs 3 1
def p__law_is_plan : SF := cSeq (cIte (cTb (cN neK [.e (cN lenK [.s 3]), .e (cN lenK [.s 2])])) (cRet (cC (.bool false))) (cNx))
  (cSeq (cSet 4 (cDict0))
  (cSeq (cSet 5 (cCall g__law_needs [.s 2]))
  (cSeq (cFor (sRng rng1 [.e (cN lenK [.s 2])]) (gN 6) (cSeq (cAsg (cN ixK [.s 3, .s 6]) (gT [gN 7, gN 8]))
  (cSeq (cIte (fOr (cTb (cN neK [.e (cN setSortK [.s 7]), .s 7])) (cTb (cN neK [.e (cN setSortK [.s 8]), .s 8]))) (cRet (cC (.bool false))) (cNx))
  (cSeq (cIte (cTb (cN neK [.e (cComp (sList (cVar 8)) [9] (gN 9) (cTb (cN notInK2 [.s 9, .s 4])) (cVar 9)), .e (cLst [])])) (cRet (cC (.bool false))) (cNx))
  (cSeq (cFor (sList (cVar 8)) (gN 9) (cDrop (cMut 4 [] isDX popXM [.e (cVar 9)])))
  (cSeq (cFor (sList (cVar 7)) (gT [gN 10, gN 11, gN 12]) (cSeq (cIte (fOr (fNot (cTb (cChain (fun i j => decide (i < j)) (fun i j => decide (i < j)) (cC (.int 0)) (cVar 10) (cVar 0)))) (fOr (fNot (cTb (cChain (fun i j => decide (i ≤ j)) (fun i j => decide (i < j)) (cC (.int 0)) (cVar 11) (cCall g__law_side [.s 10])))) (fNot (cTb (cChain (fun i j => decide (i ≤ j)) (fun i j => decide (i < j)) (cC (.int 0)) (cVar 12) (cCall g__law_side [.s 10])))))) (cRet (cC (.bool false))) (cNx))
  (cIte (cTb (cN inK2 [.e (cTup [.e (cVar 10), .e (cVar 11), .e (cVar 12)]), .s 4])) (cRet (cC (.bool false))) (cNx))))
  (cSeq (cDrop (cMut 4 [] isDX updXM [.e (cComp (sList (cVar 7)) [9] (gN 9) (fYes) (cTup [.e (cVar 9), .c (.bool true)]))]))
  (cIte (fOr (cTb (cN gtK [.e (cN lenK2 [.s 4]), .s 1])) (cTb (cN neK [.e (cComp (sList (cN ixK [.s 5, .s 6])) [9] (gN 9) (cTb (cN notInK2 [.s 9, .s 4])) (cVar 9)), .e (cLst [])]))) (cRet (cC (.bool false))) (cNx)))))))))
  (cRet (cC (.bool true))))))
def g__law_is_plan : GF := runG p__law_is_plan 13 4
def p__law_small : SF := cSeq (cSet 2 (cLst []))
  (cSeq (cFor (sList (cCall g__law_way [.s 0, .s 1, .c (.int 6)])) (gT [gN 3, gN 4, gN 5, gN 6, gN 7]) (cDrop (cMut 2 [] isList appendM [.e (cTup [.e (cVar 3), .e (cVar 4), .e (cVar 5), .e (cN minK [.s 6, .c (.int 2)]), .e (cN minK [.s 7, .c (.int 2)])])])))
  (cRet (cMv 2)))
def g__law_small : GF := runG p__law_small 8 2
def p__law_subsets : SF := cSeq (cSet 2 (cLst [.e (cTup [])]))
  (cSeq (cFor (sList (cVar 0)) (gN 3) (cSet 2 (cN addK [.s 2, .e (cComp (sList (cVar 2)) [4] (gN 4) (cTb (cN ltK [.e (cN lenK [.s 4]), .s 1])) (cN addK [.s 4, .e (cTup [.e (cVar 3)])]))])))
  (cRet (cMv 2)))
def g__law_subsets : GF := runG p__law_subsets 5 2
def p_are_rising : SF := cRet (cN eqK [.e (cN listK [.s 0]), .e (cN setSortK [.s 0])])
def g_are_rising : GF := runG p_are_rising 1 1
def p_is_plan : SF := cSeq (cDrop (cCall g_need_way [.s 0, .s 1, .s 2]))
  (cSeq (cIte (cTb (cN neK [.e (cN lenK [.s 3]), .e (cN lenK [.s 2])])) (cRet (cC (.bool false))) (cNx))
  (cSeq (cSet 4 (cLst []))
  (cSeq (cFor (sZip [.e (cVar 2), .e (cVar 3)]) (gT [gN 5, gT [gN 6, gN 7]]) (cSeq (cIte (fOr (fNot (cTb (cCall g_are_rising [.s 6]))) (fOr (fNot (cTb (cCall g_are_rising [.s 7]))) (cTb (cN neK [.e (cComp (sList (cVar 7)) [8] (gN 8) (cTb (cN notInK [.s 8, .s 4])) (cVar 8)), .e (cLst [])])))) (cRet (cC (.bool false))) (cNx))
  (cSeq (cSet 4 (cComp (sList (cVar 4)) [8] (gN 8) (cTb (cN notInK [.s 8, .s 7])) (cVar 8)))
  (cSeq (cIte (cTb (cN neK [.e (cComp (sList (cVar 6)) [8] (gN 8) (fOr (cTb (cN inK [.s 8, .s 4])) (fOr (cTb (cN eqK [.s 8, .c c_WHOLE])) (fNot (cTb (cCall g_is_square [.s 0, .s 8]))))) (cVar 8)), .e (cLst [])])) (cRet (cC (.bool false))) (cNx))
  (cSeq (cSet 4 (cN addK [.s 4, .s 6]))
  (cIte (fOr (cTb (cN gtK [.e (cN lenK [.s 4]), .s 1])) (cTb (cN neK [.e (cComp (sList (cCall g_needs_of [.s 5])) [8] (gN 8) (cTb (cN notInK [.s 8, .s 4])) (cVar 8)), .e (cLst [])]))) (cRet (cC (.bool false))) (cNx)))))))
  (cRet (cC (.bool true))))))
def g_is_plan : GF := runG p_is_plan 9 4
def p_gaps_of : SF := cSeq (cSet 1 (cLst []))
  (cSeq (cFor (sRng rng1 [.e (cN lenK [.s 0])]) (gN 2) (cSeq (cSet 3 (cComp (sList (cN ixK [.s 0, .s 2])) [4] (gN 4) (fYes) (cCall g_next_use [.s 0, .s 2, .s 4])))
  (cDrop (cMut 1 [] isList extendM [.e (cComp (sList (cVar 3)) [5] (gN 5) (cTb (cN ltK [.s 5, .e (cN lenK [.s 0])])) (cTup [.e (cVar 2), .e (cVar 5)]))]))))
  (cRet (cMv 1)))
def g_gaps_of : GF := runG p_gaps_of 6 1
def p_lower_of : SF := cSeq (cSet 3 (cComp (sList (cVar 1)) [7] (gN 7) (fYes) (cCall g_needs_of [.s 7])))
  (cSeq (cSet 4 (cN sumK [.e (cComp (sList (cVar 3)) [8] (gN 8) (fYes) (cN lenK [.s 8]))]))
  (cSeq (cSet 4 (cN subK [.s 4, .e (cN sumK [.e (cComp (sList (cVar 2)) [9] (gN 9) (fYes) (cN subK [.s 0, .e (cN lenK [.e (cN ixK [.s 3, .s 9])])]))])]))
  (cSeq (cFor (sList (cCall g_gaps_of [.s 3])) (gT [gN 5, gN 6]) (cIte (cTb (cN eqK [.e (cComp (sList (cVar 2)) [9] (gN 9) (cTb (cChain (fun i j => decide (i < j)) (fun i j => decide (i < j)) (cVar 5) (cVar 9) (cVar 6))) (cVar 9)), .e (cLst [])])) (cSet 4 (cN subK [.s 4, .c (.int 1)])) (cNx)))
  (cRet (cMv 4)))))
def g_lower_of : GF := runG p_lower_of 10 3
def p_lower : SF := cSeq (cDrop (cCall g_need_way [.s 0, .s 1, .s 2]))
  (cSeq (cIte (fOr (cTb (cN neK [.e (cN listK [.s 3]), .e (cN setSortIK [.s 3])])) (cTb (cN neK [.e (cComp (sList (cVar 3)) [4] (gN 4) (fNot (cTb (cChain (fun i j => decide (i ≤ j)) (fun i j => decide (i < j)) (cC (.int 0)) (cVar 4) (cN lenK [.s 2])))) (cVar 4)), .e (cLst [])]))) (cRaise 7) (cNx))
  (cRet (cCall g_lower_of [.s 1, .s 2, .s 3])))
def g_lower : GF := runG p_lower 5 4
def p_between : SF := cRet (cN lenK [.e (cComp (sList (cVar 0)) [3] (gN 3) (fAnd (cTb (cN leK [.s 1, .e (cN ixK [.s 3, .c (.int 0)])])) (cTb (cN leK [.e (cN ixK [.s 3, .c (.int 1)]), .s 2]))) (cVar 3))])
def g_between : GF := runG p_between 4 3
def p__law_room : SF := cSeq (cSet 2 (cN maxK [.e (cComp (sList (cCall g__law_needs [.s 1])) [3] (gN 3) (fYes) (cN lenK [.s 3]))]))
  (cRet (cN maxK [.c (.int 1), .e (cN addK [.s 2, .e (cCall g__law_next [.s 0, .e (cN ixK [.e (cFz (cLst [.c (.int 1), .c (.int 4), .c (.int 13)])), .e (cCall g__law_next [.s 0, .c (.int 3)])])])])]))
def g__law_room : GF := runG p__law_room 4 2
def p__law_lower : SF := cSeq (cSet 3 (cC (.int 0)))
  (cSeq (cFor (sRng rng1 [.e (cN lenK [.s 1])]) (gN 4) (cSeq (cSet 5 (cN lenK [.e (cN ixK [.s 1, .s 4])]))
  (cSeq (cSet 3 (cN subK [.e (cN addK [.s 3, .s 5]), .e (cN mulK [.e (cN subK [.s 0, .s 5]), .e (cN intK [.e (cN inK [.s 4, .s 2])])])]))
  (cFor (sList (cN ixK [.s 1, .s 4])) (gN 6) (cSeq (cSet 7 (cComp (sRng rng1 [.s 4]) [8] (gN 8) (cTb (cN inK [.s 6, .e (cN ixK [.s 1, .s 8])])) (cVar 8)))
  (cIte (fAnd (cTb (cN neK [.s 7, .e (cLst [])])) (cTb (cN eqK [.e (cComp (sList (cVar 2)) [8] (gN 8) (cTb (cChain (fun i j => decide (i < j)) (fun i j => decide (i < j)) (cN ixK [.s 7, .e (cN negK [.c (.int 1)])]) (cVar 8) (cVar 4))) (cVar 8)), .e (cLst [])]))) (cSet 3 (cN subK [.s 3, .c (.int 1)])) (cNx)))))))
  (cRet (cMv 3)))
def g__law_lower : GF := runG p__law_lower 9 3
def p__law_made : SF := cSeq (cSet 4 (cLst []))
  (cSeq (cSet 5 (cLst []))
  (cSeq (cFor (sList (cCall g__law_needs [.s 3])) (gN 6) (cSeq (cSet 7 (cComp (sList (cVar 6)) [11] (gN 11) (cTb (cN notInK [.s 11, .s 5])) (cVar 11)))
  (cSeq (cIte (fAnd (cTb (cN gtK [.s 1, .c (.int 1)])) (fAnd (cTb (cN ltK [.e (cN addK [.e (cN lenK [.s 5]), .e (cN lenK [.s 7])]), .s 2])) (cTb (cN eqK [.e (cCall g__law_next [.s 0, .c (.int 3)]), .c (.int 2)])))) (cSeq (cSet 8 (cTup [.e (cN subK [.s 1, .c (.int 1)]), .e (cCall g__law_next [.s 0, .e (cCall g__law_side [.e (cN subK [.s 1, .c (.int 1)])])]), .c (.int 0)]))
  (cSet 7 (cN addK [.s 7, .e (cRep (cLst [.e (cVar 8)]) (cN intK [.e (cN notInK [.s 8, .e (cN addK [.s 5, .s 7])])]))]))) (cNx))
  (cSeq (cSet 9 (cComp (sList (cVar 5)) [11] (gN 11) (cTb (cN notInK [.s 11, .s 6])) (cVar 11)))
  (cSeq (cSet 10 (cLst []))
  (cSeq (cWhile (fOr (cTb (cN gtK [.e (cN addK [.e (cN subK [.e (cN lenK [.s 5]), .e (cN lenK [.s 10])]), .e (cN lenK [.s 7])]), .s 2])) (fAnd (cTb (cN neK [.s 9, .e (cLst [])])) (cTb (cN eqK [.e (cCall g__law_next [.s 0, .c (.int 5)]), .c (.int 4)])))) (cDrop (cMut 10 [] isList appendM [.e (cMut 9 [] isList popM [.e (cCall g__law_next [.s 0, .e (cN lenK [.s 9])])])])) 64)
  (cSeq (cSet 5 (cN addK [.e (cComp (sList (cVar 5)) [11] (gN 11) (cTb (cN notInK [.s 11, .s 10])) (cVar 11)), .s 7]))
  (cDrop (cMut 4 [] isList appendM [.e (cTup [.e (cN sortedK [.s 7]), .e (cN sortedK [.s 10])])])))))))))
  (cRet (cMv 4))))
def g__law_made : GF := runG p__law_made 12 4
def p__law_turned : SF := cSeq (cSet 3 (cCall g__law_next [.s 0, .e (cN addK [.e (cN lenK [.s 1]), .c (.int 1)])]))
  (cSeq (cSet 4 (cCall g__law_next [.s 0, .c (.int 7)]))
  (cSeq (cIte (fOr (cTb (cN eqK [.s 3, .e (cN lenK [.s 1])])) (cTb (cN eqK [.s 4, .c (.int 0)]))) (cRet (cN ixK [.e (cFz (cLst [.e (cN addK [.s 1, .e (cFz (cLst [.e (cTup [.e (cLst []), .e (cLst [])])]))]), .e (cSlice 1 none (some (cN negK [.c (.int 1)]))), .e (cSlice 1 (some (cC (.int 1))) none), .e (cRev (cVar 1))])), .e (cCall g__law_next [.s 0, .c (.int 4)])])) (cNx))
  (cSeq (cAsg (cN ixK [.s 1, .s 3]) (gT [gN 5, gN 6]))
  (cSeq (cSet 7 (cLst [.e (cTup [.c (.int 0), .c (.int 0), .c (.int 0)]), .e (cTup [.e (cVar 2), .c (.int 0), .c (.int 0)]), .e (cTup [.e (cN subK [.s 2, .c (.int 1)]), .e (cN negK [.c (.int 1)]), .c (.int 0)]), .e (cTup [.e (cN subK [.s 2, .c (.int 1)]), .c (.int 0), .c (.int 99)]), .e (cTup [.c (.int 0), .c (.int 1), .c (.int 0)]), .e (cTup [.e (cN subK [.s 2, .c (.int 1)]), .c (.int 0), .c (.int 0)])]))
  (cSeq (cSet 8 (cN ixK [.s 7, .e (cCall g__law_next [.s 0, .c (.int 6)])]))
  (cSeq (cSet 9 (cCall g__law_next [.s 0, .e (cN maxK [.c (.int 1), .e (cN lenK [.s 5])])]))
  (cSeq (cIte (cTb (cN eqK [.s 4, .c (.int 1)])) (cSet 5 (cN sortedK [.e (cN addK [.s 5, .e (cLst [.e (cVar 8)])])])) (cIte (cTb (cN eqK [.s 4, .c (.int 2)])) (cSet 5 (cN addK [.e (cSlice 5 none (some (cVar 9))), .e (cSlice 5 (some (cN addK [.s 9, .c (.int 1)])) none)])) (cIte (cTb (cN eqK [.s 4, .c (.int 3)])) (cSeq (cSet 10 (cN addK [.e (cN addK [.e (cSlice 5 none (some (cVar 9))), .e (cSlice 5 (some (cVar 9)) (some (cN addK [.s 9, .c (.int 1)])))]), .e (cSlice 5 (some (cVar 9)) none)]))
  (cSet 5 (cN ixK [.e (cFz (cLst [.e (cRev (cVar 5)), .e (cVar 10)])), .e (cCall g__law_next [.s 0, .c (.int 2)])]))) (cIte (cTb (cN eqK [.s 4, .c (.int 4)])) (cSet 6 (cN ixK [.e (cFz (cLst [.e (cSlice 6 (some (cC (.int 1))) none), .e (cSlice 6 none (some (cN negK [.c (.int 1)]))), .e (cN sortedK [.e (cN addK [.s 6, .e (cLst [.e (cVar 8)])])])])), .e (cCall g__law_next [.s 0, .c (.int 3)])])) (cIte (cTb (cN eqK [.s 4, .c (.int 5)])) (cSet 6 (cN sortedK [.e (cN addK [.s 6, .e (cSlice 5 (some (cVar 9)) (some (cN addK [.s 9, .c (.int 1)])))])])) (cSeq (cSet 11 (cN ixK [.s 1, .e (cCall g__law_next [.s 0, .e (cN lenK [.s 1])])]))
  (cAsg (cVar 11) (gT [gN 5, gN 6]))))))))
  (cRet (cN addK [.e (cN addK [.e (cSlice 1 none (some (cVar 3))), .e (cLst [.e (cTup [.e (cVar 5), .e (cVar 6)])])]), .e (cSlice 1 (some (cN addK [.s 3, .c (.int 1)])) none)])))))))))
def g__law_turned : GF := runG p__law_turned 12 3
def p__law_mirrored : SF := cSeq (cAsg (cVar 0) (gT [gN 1, gN 2, gN 3, gN 4, gN 5]))
  (cRet (cTup [.e (cVar 1), .e (cN subK [.e (cN subK [.e (cCall g__law_side [.s 1]), .s 2]), .s 4]), .e (cVar 3), .e (cVar 4), .e (cVar 5)]))
def g__law_mirrored : GF := runG p__law_mirrored 6 1
def p_written : SF := cSeq (cDrop (cCall g_need_levels [.s 0]))
  (cSeq (cIte (fNot (cTb (cChain (fun i j => decide (i ≤ j)) (fun i j => decide (i ≤ j)) (cC (.int 1)) (cN lenK [.s 1]) (cC c_MOST_VIEWS)))) (cRaise 5) (cNx))
  (cSeq (cSet 2 (cLst [.e (cN addK [.c (.str "levels "), .e (cN strK [.s 0])])]))
  (cSeq (cFor (sList (cVar 1)) (gN 3) (cSeq (cDrop (cCall g_need_view [.s 0, .s 3]))
  (cDrop (cMut 2 [] isList appendM [.e (cMutT (cC (.str " ")) isStr joinM [.e (cN addK [.e (cLst [.c (.str "view")]), .e (cComp (sList (cVar 3)) [4] (gN 4) (fYes) (cN strK [.s 4]))])])]))))
  (cRet (cMutT (cC (.str "\n")) isStr joinM [.e (cVar 2)])))))
def g_written : GF := runG p_written 5 2
def p_number_of : SF := cSeq (cIte (fOr (fNot (cTb (cChain (fun i j => decide (i ≤ j)) (fun i j => decide (i ≤ j)) (cC (.int 1)) (cN lenK [.s 0]) (cC c_MOST_FIGURES)))) (cTb (cN neK [.e (cComp (sList (cVar 0)) [1] (gN 1) (cTb (cN notInK [.s 1, .c c_FIGURES])) (cVar 1)), .e (cLst [])]))) (cRet (cC .none)) (cNx))
  (cRet (cIf (fAnd (cTb (cN eqK [.e (cN ixK [.s 0, .c (.int 0)]), .c (.str "0")])) (cTb (cN neK [.s 0, .c (.str "0")]))) (cC .none) (cN intK [.s 0])))
def g_number_of : GF := runG p_number_of 2 1
def p_numbers_of : SF := cSeq (cSet 3 (cMutT (cVar 0) isStr splitM [.c (.str " ")]))
  (cSeq (cSet 4 (cComp (sList (cSlice 3 (some (cC (.int 1))) none)) [5] (gN 5) (fYes) (cCall g_number_of [.s 5])))
  (cRet (cIf (fAnd (cTb (cN eqK [.e (cN ixK [.s 3, .c (.int 0)]), .s 1])) (fAnd (cTb (cN eqK [.e (cN lenK [.s 4]), .s 2])) (cTb (cN notInK [.c .none, .s 4])))) (cMv 4) (cC .none))))
def g_numbers_of : GF := runG p_numbers_of 6 3
def p__law_text : SF := cSeq (cSet 2 (cLst [.e (cN addK [.c (.str "levels "), .e (cN strK [.s 0])])]))
  (cSeq (cFor (sList (cVar 1)) (gN 3) (cDrop (cMut 2 [] isList appendM [.e (cN addK [.c (.str "view "), .e (cMutT (cC (.str " ")) isStr joinM [.e (cComp (sList (cVar 3)) [4] (gN 4) (fYes) (cN strK [.s 4]))])])])))
  (cRet (cMutT (cC (.str "\n")) isStr joinM [.e (cVar 2)])))
def g__law_text : GF := runG p__law_text 5 2
def p__law_numbers : SF := cSeq (cSet 2 (cMutT (cVar 0) isStr splitM [.c (.str " ")]))
  (cSeq (cSet 3 (cComp (sList (cSlice 2 (some (cC (.int 1))) none)) [4] (gN 4) (fYes) (cComp (sRng rng1 [.c (.int 100)]) [5] (gN 5) (cTb (cN eqK [.e (cN strK [.s 5]), .s 4])) (cVar 5))))
  (cSeq (cIte (fOr (cTb (cN neK [.e (cN ixK [.s 2, .c (.int 0)]), .s 1])) (cTb (cN inK [.e (cLst []), .s 3]))) (cRet (cLst [])) (cNx))
  (cRet (cComp (sList (cVar 3)) [6] (gN 6) (fYes) (cN ixK [.s 6, .c (.int 0)])))))
def g__law_numbers : GF := runG p__law_numbers 7 2
def p__law_due : SF := cSeq (cSet 1 (cMutT (cVar 0) isStr splitM [.c (.str "\n")]))
  (cSeq (cSet 2 (cCall g__law_numbers [.e (cN ixK [.s 1, .c (.int 0)]), .c (.str "levels")]))
  (cSeq (cIte (fOr (cTb (cN neK [.e (cN lenK [.s 2]), .c (.int 1)])) (fNot (cTb (cChain (fun i j => decide (i ≤ j)) (fun i j => decide (i ≤ j)) (cC (.int 1)) (cN ixK [.s 2, .c (.int 0)]) (cC (.int 6)))))) (cRet (cC (.int 0))) (cNx))
  (cSeq (cSet 3 (cLst []))
  (cSeq (cFor (sRng rng2 [.c (.int 1), .e (cN lenK [.s 1])]) (gN 4) (cSeq (cSet 5 (cCall g__law_numbers [.e (cN ixK [.s 1, .s 4]), .c (.str "view")]))
  (cSeq (cIte (fOr (cTb (cN neK [.e (cN lenK [.s 5]), .c (.int 5)])) (fOr (cTb (cN eqK [.s 4, .c (.int 13)])) (fOr (cTb (cN geK [.e (cN ixK [.s 5, .c (.int 0)]), .e (cN ixK [.s 2, .c (.int 0)])])) (fOr (cTb (cN eqK [.e (cN mulK [.e (cN ixK [.s 5, .c (.int 3)]), .e (cN ixK [.s 5, .c (.int 4)])]), .c (.int 0)])) (cTb (cN gtK [.e (cN mulK [.e (cN ixK [.s 5, .c (.int 3)]), .e (cN ixK [.s 5, .c (.int 4)])]), .c (.int 16)])))))) (cRet (cMv 4)) (cNx))
  (cSeq (cIte (cTb (cN gtK [.e (cN maxK [.e (cN addK [.e (cN ixK [.s 5, .c (.int 1)]), .e (cN ixK [.s 5, .c (.int 3)])]), .e (cN addK [.e (cN ixK [.s 5, .c (.int 2)]), .e (cN ixK [.s 5, .c (.int 4)])])]), .e (cCall g__law_side [.e (cN ixK [.s 5, .c (.int 0)])])])) (cRet (cMv 4)) (cNx))
  (cDrop (cMut 3 [] isList appendM [.e (cN tupleK [.s 5])]))))))
  (cRet (cIf (cTb (cN neK [.s 3, .e (cLst [])])) (cTup [.e (cN ixK [.s 2, .c (.int 0)]), .e (cVar 3)]) (cC (.int 1))))))))
def g__law_due : GF := runG p__law_due 6 1
def p__law_changed : SF := cSeq (cSet 2 (cCall g__law_next [.s 0, .c (.int 9)]))
  (cSeq (cSet 3 (cCall g__law_next [.s 0, .e (cN addK [.e (cN lenK [.s 1]), .c (.int 1)])]))
  (cSeq (cSet 4 (cN ixK [.c (.str "0123456789 viewl\n-"), .e (cCall g__law_next [.s 0, .c (.int 18)])]))
  (cSeq (cIte (cTb (cN ltK [.s 2, .c (.int 3)])) (cRet (cN addK [.e (cN addK [.e (cSlice 1 none (some (cVar 3))), .e (cN ixK [.e (cFz (cLst [.e (cVar 4), .c (.str ""), .e (cVar 4)])), .s 2])]), .e (cSlice 1 (some (cN addK [.s 3, .e (cN intK [.e (cN gtK [.s 2, .c (.int 0)])])])) none)])) (cNx))
  (cSeq (cSet 5 (cMutT (cVar 1) isStr splitM [.c (.str "\n")]))
  (cSeq (cSet 6 (cCall g__law_next [.s 0, .e (cN lenK [.s 5])]))
  (cSeq (cIte (cTb (cN ltK [.s 2, .c (.int 6)])) (cSeq (cSet 7 (cCall g__law_next [.s 0, .e (cN lenK [.s 5])]))
  (cSeq (cSet 8 (cLst [.e (cN addK [.e (cSlice 5 none (some (cVar 6))), .e (cSlice 5 (some (cN addK [.s 6, .c (.int 1)])) none)]), .e (cN addK [.e (cN addK [.e (cSlice 5 none (some (cVar 6))), .e (cN mulK [.e (cSlice 5 (some (cVar 6)) (some (cN addK [.s 6, .c (.int 1)]))), .c (.int 13)])]), .e (cSlice 5 (some (cVar 6)) none)]), .e (cN addK [.e (cSlice 5 none (some (cVar 7))), .e (cSlice 5 (some (cVar 6)) none)])]))
  (cRet (cMutT (cC (.str "\n")) isStr joinM [.e (cN ixK [.s 8, .e (cN subK [.s 2, .c (.int 3)])])])))) (cNx))
  (cSeq (cSet 9 (cMutT (cN ixK [.s 5, .s 6]) isStr splitM [.c (.str " ")]))
  (cSeq (cSet 10 (cCall g__law_next [.s 0, .e (cN lenK [.s 9])]))
  (cSeq (cSet 11 (cN ixK [.e (cFz (cLst [.c (.str ""), .c (.str "0"), .c (.str "1"), .c (.str "2"), .c (.str "16"), .c (.str "17"), .c (.str "00"), .c (.str "05"), .c (.str "100"), .c (.str "-1"), .c (.str "view"), .c (.str "levels"), .c (.str "View")])), .e (cCall g__law_next [.s 0, .c (.int 13)])]))
  (cSeq (cSet 9 (cN addK [.e (cN addK [.e (cSlice 9 none (some (cVar 10))), .e (cN ixK [.e (cFz (cLst [.e (cLst []), .e (cLst [.e (cN ixK [.s 9, .s 10]), .e (cN ixK [.s 9, .s 10])]), .e (cLst [.e (cVar 11)])])), .e (cN subK [.s 2, .c (.int 6)])])]), .e (cSlice 9 (some (cN addK [.s 10, .c (.int 1)])) none)]))
  (cRet (cMutT (cC (.str "\n")) isStr joinM [.e (cN addK [.e (cN addK [.e (cSlice 5 none (some (cVar 6))), .e (cLst [.e (cMutT (cC (.str " ")) isStr joinM [.e (cVar 9)])])]), .e (cSlice 5 (some (cN addK [.s 6, .c (.int 1)])) none)])]))))))))))))
def g__law_changed : GF := runG p__law_changed 12 2
end TL
end
set_option linter.all false
set_option maxRecDepth 100000
set_option maxHeartbeats 8000000
noncomputable section
namespace TL
open PySem PySem.Spec PyProof.Rows L2 TP
variable [TabsOf]
/-! terms -/
/-- law: its body -/
def p_law : SF := cSeq (cSet 1 (cCall g__law_mix [.s 0, .c (.int 3)]))
  (cSeq (cSet 2 (cN addK [.c (.int 1), .e (cCall g__law_next [.s 1, .c (.int 6)])]))
  (cSeq (cFor (sRng rng1 [.c (.int 6)]) (gN 3) (cSeq (cSet 4 (cCall g__law_next [.s 1, .s 2]))
  (cSeq (cSet 5 (cTup [.e (cVar 4), .e (cCall g__law_next [.s 1, .e (cCall g__law_side [.s 4])]), .e (cCall g__law_next [.s 1, .e (cCall g__law_side [.s 4])])]))
  (cSeq (cSet 6 (cComp (sRng rng1 [.s 4]) [16] (gN 16) (fYes) (cCall g__law_over [.s 5, .e (cN subK [.e (cN subK [.s 4, .c (.int 1)]), .s 16])])))
  (cSeq (cSet 7 (cCall g__law_view [.s 1, .s 2]))
  (cSeq (cFor (sRng rng1 [.c (.int 2)]) (gN 8) (cSeq (cSet 9 (cCall g_elders [.s 2, .s 5]))
  (cSeq (cSet 10 (cCall g_wanted [.s 2, .s 7]))
  (cSeq (cIte (fOr (fNot (cTb (cPeek (g__law_alike 6) [.s 9, .s 6]))) (fNot (cTb (cPeek (g__law_alike 6) [.s 10, .e (cFz (cCall g__law_wants [.s 7]))])))) (cRet (cC (.bool false))) (cNx))
  (cSeq (cDrop (cMut 9 [] isList appendM [.e (cTup [.c (.int 0), .c (.int 0), .c (.int 0)])]))
  (cDrop (cMut 10 [] isList reverseM [])))))))
  (cSeq (cSet 11 (cCall g__law_next [.s 1, .e (cN powK [.c (.int 10), .c (.int 6)])]))
  (cSeq (cSet 12 (cCall g__law_side [.s 4]))
  (cSeq (cSet 13 (cLst [.e (cTup [.e (cN addK [.s 2, .s 11]), .c (.int 0), .c (.int 0)]), .e (cTup [.e (cN subK [.e (cN negK [.c (.int 1)]), .s 11]), .c (.int 0), .c (.int 0)]), .e (cTup [.e (cVar 4), .e (cN addK [.s 12, .s 11]), .c (.int 0)]), .e (cTup [.e (cVar 4), .c (.int 0), .e (cN addK [.s 12, .s 11])])]))
  (cSeq (cSet 13 (cN ixK [.e (cFz (cN addK [.s 13, .e (cLst [.e (cTup [.e (cVar 4), .e (cN subK [.e (cN negK [.c (.int 1)]), .s 11]), .c (.int 0)]), .e (cTup [.e (cVar 4), .c (.int 0), .e (cN subK [.e (cN negK [.c (.int 1)]), .s 11])])])])), .e (cCall g__law_next [.s 1, .c (.int 6)])]))
  (cSeq (cIte (cTb (cN neK [.e (cKind [1, 2, 3] (cCall g_elders [.s 2, .s 13])), .c (.str "BadSquare")])) (cRet (cC (.bool false))) (cNx))
  (cSeq (cSet 14 (cCall g__law_odd [.s 1, .s 2]))
  (cSeq (cIte (cTb (cN neK [.e (cKind [1, 2, 3] (cCall g_wanted [.s 2, .s 14])), .e (cN ixK [.e (cFz (cLst [.c (.str "BadView"), .c (.str "")])), .e (cN intK [.e (cCall g__law_is_view [.s 2, .s 14])])])])) (cRet (cC (.bool false))) (cNx))
  (cSeq (cSet 15 (cN ixK [.e (cFz (cLst [.c (.int 0), .c (.int 7), .e (cN addK [.c (.int 7), .s 11]), .e (cN subK [.e (cN negK [.c (.int 1)]), .s 11])])), .e (cCall g__law_next [.s 1, .c (.int 4)])]))
  (cIte (cTb (cN neK [.e (cLst [.e (cKind [1, 2, 3] (cCall g_elders [.s 15, .s 13])), .e (cKind [1, 2, 3] (cCall g_wanted [.s 15, .s 14]))]), .e (cRep (cLst [.c (.str "BadPicture")]) (cC (.int 2)))])) (cRet (cC (.bool false))) (cNx))))))))))))))))
  (cRet (cC (.bool true)))))
def g_law : GF := runG p_law 17 1
def p__law_kind_h (n : Nat) : SF := cSeq (cSet 2 (cLst [.e (cC (.bool (Nat.beq n 1))), .e (cC (.bool (Nat.beq n 2))), .e (cC (.bool (Nat.beq n 3))), .e (cC (.bool (Nat.beq n 4)))]))
  (cSeq (cSet 2 (cN addK [.s 2, .e (cLst [.e (cC (.bool (Nat.beq n 5))), .e (cC (.bool (Nat.beq n 6))), .e (cC (.bool (Nat.beq n 7)))])]))
  (cSeq (cDrop (cMut 2 [] isList appendM [.e (cC (.bool (Nat.beq n 8)))]))
  (cSeq (cSet 3 (cLst [.c (.str "BadPicture"), .c (.str "BadSquare"), .c (.str "BadView"), .c (.str "BadRoom"), .c (.str "BadWay"), .c (.str "TooSmall"), .c (.str "BadMoments"), .c (.str "BadText")]))
  (cSeq (cIte (fOr (cTb (cN neK [.e (cMut 2 [] isList countM [.c (.bool true)]), .c (.int 1)])) (fNot (cTb (cC (.bool true))))) (cRet (cC (.str "other"))) (cNx))
  (cRet (cN ixK [.s 3, .e (cMut 2 [] isList indexM [.c (.bool true)])]))))))
end TL
end
set_option linter.all false
set_option maxRecDepth 100000
set_option maxHeartbeats 2000000
/-! TLf: a lambda with one parameter that has a written number as its default, called without arguments. -/
namespace TP
open PySem PySem.Spec PyProof.Rows L2 LamX
section
variable {X : Cx} {pins : List (Addr × Obj)} {σ : L2.St} {H : Hp} {s : Shared}
theorem lam_newD {T : List (Addr × Str)} {cA tA : Addr} {ar : Arguments} {bd : Expr} {sc : Scope} {po dp : Pos} {i : Int} {dj : Nat} {Er : Value → Shared → Prop} {Q : Value → Shared → Prop} (J : Inv X pins σ H s) (tab : TabB X.base X.mg cA tA) (code : X.env.code = .ref cA)
    (inT : (tA, X.env.qual ++ "<lambda>") ∈ T) (one : ∀ p ∈ T, p.1 = tA → p.2 = X.env.qual ++ "<lambda>") (hT : Tabs T H) (hde : ar.defaults = [.Constant (.int i) dj dp]) (hkw : ar.kw_defaults = []) (free : ∀ y ∈ sc.names, y.2 = .free → ∃ c, X.env.cells.lookup y.1 = some c)
    (fin : ∀ (f c' D : Addr) (t : Tok) (dc pm ctv : Value) (H1 : Hp) (s' : Shared), Inv X pins σ H1 s' → Same H H1 → Tabs T H1 → s'.heap.get? f = some (PySem.W.kdv_obj "<lambda>" (X.env.qual ++ "<lambda>") ar (.expr bd) sc (cloFrom X.env.cells sc.names []) (.ref D) dc pm c' ctv) → H1 f = none → f ∉ frs X.stack →
      s'.heap.get? D = some (PySem.W.kdv_tup [.int i t]) → H1 D = none → D ∉ frs X.stack → H1 c' = some (CodeO c' (X.env.qual ++ "<lambda>")) → Q (.ref f) s') :
    wpAny (model X.prog X.w) X.A (eval (.Lambda ar bd sc po) X.env) Q Er s := by
  obtain ⟨ps, a1, a2, a3⟩ := hT _ inT
  refine PySem.W.kdv_lam (by rw [hde]; rfl) hkw ?_
  rw [hde]
  refine PySem.W.kdv_all1 (wpAny_Constant_int (PySem.W.kdv_all0 ?_))
  rw [makeFunction_eq]
  simp only [List.zip_nil_right, List.filterMap_nil, List.isEmpty_nil, List.isEmpty_cons, Bool.false_eq_true, if_false, if_true, pure_bind]
  refine wpAny_bind (wpAny_newTextTuple ?_)
  have offstack : ∀ f, s.heap.objs.size ≤ f → f ∉ frs X.stack := fun f hf z => by
    rcases List.mem_cons.mp (J.stkSub _ z) with e | e
    · have := J.lt
      rw [← e] at this
      exact Nat.lt_irrefl _ (Nat.lt_of_lt_of_le this hf)
    · exact J.nofs hf e
  have J2 : Inv X pins σ H { s with heap := s.heap.push (PySem.W.kdv_tup [.int i s.toks]), toks := s.toks + 1 } := J.kept fun b o e => Heap.get?_push_of_some _ e
  have nD : H s.heap.objs.size = none := J.hok.fresh (Nat.le_refl _)
  have gD : (s.heap.push (PySem.W.kdv_tup [.int i s.toks])).get? s.heap.objs.size = some (PySem.W.kdv_tup [.int i s.toks]) := Heap.get?_push_size _ rfl
  have szD : (s.heap.push (PySem.W.kdv_tup [.int i s.toks])).objs.size = s.heap.objs.size + 1 := Heap.size_push _ _
  have b2' : s.heap.get? tA = some { cls := .none, data := .fields ps } := J.hok tA _ a1
  have neT : s.heap.objs.size ≠ tA := Nat.ne_of_gt (Heap.lt_size b2')
  have b1 := tab.bm.keeps J2.bk
  have b2 := J2.hok tA _ a1
  cases hc : codeAmong po ps.toList with
  | none =>
    refine PySem.W.kdv_makeTail (mg := X.mg) (c := cA) (P := tA) (ps := ps) (closure_ok free) J2.ok.glob (J2.mod.glob.keeps J2.bk) code (tab.code.keeps J2.bk) b2 a2 hc tab.gP b1 fun c' ctv dc h' tk hx hge hlt hrec htb => ?_
    obtain ⟨c2, oc, vs, t, e2, hoc, hd, hv⟩ := hrec
    cases e2
    have grow := Nat.le_trans hge (Nat.le_of_lt hlt)
    have nC : H c' = none := J2.hok.fresh hge
    have J1 := inv_table (t' := tk) (more := #[rawInt po.line, rawInt po.col, .ref c']) (h' := h'.push (PySem.W.kdv_obj "<lambda>" (X.env.qual ++ "<lambda>") ar (.expr bd) sc (cloFrom X.env.cells sc.names []) (.ref s.heap.objs.size) dc ((X.mg "__name__").getD .none) c' ctv)) J2 a1
      (fun b o hb e => Heap.get?_push_of_some _ (hx b o hb e)) (Heap.get?_push_of_some _ htb) hge ⟨oc, vs, t, Heap.get?_push_of_some _ hoc, hd, hv⟩
    have sm := grown_same (H1 := H) (q := X.env.qual ++ "<lambda>") (more := #[rawInt po.line, rawInt po.col, .ref c']) a1 nC
    have eL : (ps ++ #[rawInt po.line, rawInt po.col, .ref c']).toList = ps.toList ++ [rawInt po.line, rawInt po.col, .ref c'] := by simp
    have big : s.heap.objs.size < h'.objs.size := Nat.lt_of_lt_of_le (by rw [szD]; exact Nat.lt_succ_self _) grow
    have dC : s.heap.objs.size ≠ c' := Nat.ne_of_lt (Nat.lt_of_lt_of_le (by rw [szD]; exact Nat.lt_succ_self _) hge)
    refine fin h'.objs.size c' s.heap.objs.size s.toks dc ((X.mg "__name__").getD .none) ctv _ _ J1 sm (fun p hp => ?_) (Heap.get?_push_size _ rfl) ?_ (offstack _ (Nat.le_of_lt big)) (Heap.get?_push_of_some _ (hx _ _ neT gD)) ?_ (offstack _ (Nat.le_refl _)) upd_same
    · by_cases hb : p.1 = tA
      · rw [one p hp hb, hb]
        refine ⟨_, by rw [upd_ne (ne_of_none a1 nC), upd_same], by rw [eL]; exact PySem.TriplesOk_snoc _ _ _ _ a2, fun p' cv hcv => ?_⟩
        rw [eL] at hcv
        rcases among_app _ a2 hcv with z | z
        · obtain ⟨c0, e1, e2⟩ := a3 p' cv z
          exact ⟨c0, e1, sm.o _ _ e2 codeO_ne⟩
        · exact ⟨c', z, upd_same⟩
      · obtain ⟨ps', k1, k2, k3⟩ := hT p hp
        refine ⟨ps', by rw [upd_ne (ne_of_none k1 nC), upd_ne hb]; exact k1, k2, fun p' cv hcv => ?_⟩
        obtain ⟨c0, e1, e2⟩ := k3 p' cv hcv
        exact ⟨c0, e1, sm.o _ _ e2 codeO_ne⟩
    · have n1 : h'.objs.size ≠ c' := Nat.ne_of_gt hlt
      have n2 : h'.objs.size ≠ tA := Nat.ne_of_gt (Nat.lt_trans (Heap.lt_size b2') big)
      rw [upd_ne n1, upd_ne n2]
      exact J2.hok.fresh grow
    · rw [upd_ne dC, upd_ne neT]
      exact nD
  | some cv =>
    obtain ⟨c', e, isC⟩ := a3 po cv hc
    subst e
    refine PySem.W.kdv_makeTailHit (mg := X.mg) (c := cA) (P := tA) (ps := ps) (closure_ok free) J2.ok.glob (J2.mod.glob.keeps J2.bk) code (tab.code.keeps J2.bk) b2 a2 hc b1 fun ctv dc h' tk hx hsz => ?_
    have big : s.heap.objs.size < h'.objs.size := Nat.lt_of_lt_of_le (by rw [szD]; exact Nat.lt_succ_self _) hsz
    have J1 : Inv X pins σ H { s with heap := h'.push (PySem.W.kdv_obj "<lambda>" (X.env.qual ++ "<lambda>") ar (.expr bd) sc (cloFrom X.env.cells sc.names []) (.ref s.heap.objs.size) dc ((X.mg "__name__").getD .none) c' ctv), toks := tk } := J2.kept fun b o e => Heap.get?_push_of_some _ (hx b o e)
    exact fin h'.objs.size c' s.heap.objs.size s.toks dc ((X.mg "__name__").getD .none) ctv H _ J1 (Same.refl H) hT (Heap.get?_push_size _ rfl) (J2.hok.fresh hsz) (offstack _ (Nat.le_of_lt big)) (Heap.get?_push_of_some _ (hx _ _ gD)) nD (offstack _ (Nat.le_refl _)) isC
end
variable [TabsOf]
section
variable {X : Cx} {c : Ctx} {E : XK} {I H : Hp} {σ σ' : L2.St} {ρ ρ' : List R} {fp : List Addr}
theorem se_kindD {x a : Str} {g cA tA : Addr} {k : Nat} {pg : Arguments} {bg : List Stmt} {sg : Scope} {dV kV doc pm cdv ct oc : Value} {an od : Option Addr} {osl : Array (Option Value)} {Ng : List Str} {ar : Arguments} {bd : Expr} {lam : Scope} {f : EF} {ns : List Nat} {p lpos pos dp : Pos} {i0 : Int} {dj : Nat} {pn0 : Str}
    (ok : CtxOk X c) (hg : Gl X x) (hm : X.mg x = some (.ref g)) (hk : PySem.W.keepIn X.K (.ref g) = true) (lk : X.K.lookup g = some ⟨oc, od, .func (PySem.W.fnOf x x pg bg sg dV kV doc pm an cdv ct), osl⟩) (hcg : PySem.W.codeIn X.K cdv x = true) (hb : L2.Binds X.K (PySem.W.fnOf x x pg bg sg dV kV doc pm an cdv ct) [a] []) (Sg : FnScope Ng [a] sg) (hNg : Ng[0]? = some a) (hva : Vis sg a)
    (gives : GivesTo X Ng x sg g cdv bg a (X.env.qual ++ "<lambda>") (TTkind c ns)) (tab : TabB X.base X.mg cA tA) (code : X.env.code = .ref cA) (inT : (tA, X.env.qual ++ "<lambda>") ∈ TabsOf.T) (one : ∀ p ∈ TabsOf.T, p.1 = tA → p.2 = X.env.qual ++ "<lambda>") (hr : Room (k + 2) X.A) (L : LamP X.env.scope lam [pn0]) (hna : ∀ j : Nat, X.N[j]? ≠ some pn0) (hde : ar.defaults = [.Constant (.int i0) dj dp]) (hkw : ar.kw_defaults = [])
    (bind : ∀ (q : Str) (cl : List (Str × Addr)) (D : Addr) (dc pm cv ctv : Value) (t : Tok), ∃ k : Option (Array Value) → Sem (List (Str × Value)), bindArgs (PySem.W.kdv_fn "<lambda>" q ar (.expr bd) lam cl (.ref D) dc pm cv ctv) ⟨[], []⟩ = seqItems? (PySem.W.kdv_fn "<lambda>" q ar (.expr bd) lam cl (.ref D) dc pm cv ctv).defaults >>= k ∧ k (some #[.int i0 t]) = pure [(pn0, .int i0 t)])
    (body : ∀ (A : Around) (outer : List Env) (s : Shared) (H : Hp) (E : XK) (f' c' : Addr) (pi : List Nat) (pv : Nat → V), Room k (A.deeper (lamEnv X lam s.heap.objs.size f' c')) → SE (lamCx X A outer s H E lam f' c') (c.at pi pv) E bd f)
    (hdb : (x == ("__debug__" : Str)) = false := by decide) (hd : (a == ("__debug__" : Str)) = false := by decide) (hcd : (a == ("__classdict__" : Str)) = false := by decide) (ne1 : starEach [.Lambda ar bd lam lpos] X.env = [(false, eval (.Lambda ar bd lam lpos) X.env)] := by rfl) :
    SE X c E (.Call (.Name x p) [.Lambda ar bd lam lpos] [] pos) (cKind ns f) := by
  refine ⟨fun pins s σ H Q J h => ?_⟩
  obtain ⟨I, ρ, fp, G, o⟩ := h
  refine wpAny_Call_Name_kw (ld_glob J hg hm ?_ hdb)
  refine PySem.W.callWith_K (h₀ := X.base) J.ok.mod.kin hk ?_ (by rfl) (by rfl)
  show wpAny _ _ (spliced ((false, eval (.Lambda ar bd lam lpos) X.env) :: backTo pos (starEach [] X.env))) _ _ s
  refine Calls.spliced_cons (lam_newD J tab code inT one G.tb hde hkw (L.has J.ok) fun fa c' D0 t0 dc0 pm' ctv H1 s' J1 sm T1 isF nF off isD nD offD isC => ?_)
  refine Calls.spliced_nil ⟨J1.kIn, ?_⟩
  have rc : codeAny (model X.prog X.w) X.A (.call (.ref g) ⟨[.ref fa], []⟩) (CR C8.CX0 X.stack X.prog X.w H1 s' Q C8.E0) s' := by
    refine run_ofS (N := Ng) (ps := [a]) (us := [.ref fa]) (vs := [.ref fa]) lk hcg Sg hr J1.env0 (hb s' [.ref fa] J1.kIn rfl) (.cons rfl .nil) rfl fun hr' => ?_
    obtain ⟨t', ht', hq'⟩ := gives fa c' s' H1 Q (fun E' H' Q' => tE (c.at (pinI σ) (pinV σ)) E' f σ H' Q') (fun W pn xe E' p1 p2 tk hW => pe_gotten (bs := [(pn0, .int i0 t0)]) J1 L rfl ⟨J1.len, fun j y _ e _ z => absurd (by rw [List.mem_singleton.mp z] at e; exact e) (hna j), fun _ _ _ _ e _ => e⟩ isF nF off (fun sB kpB => by
      obtain ⟨k0, e1, e2⟩ := bind (X.env.qual ++ "<lambda>") (cloFrom X.env.cells lam.names []) D0 dc0 pm' (.ref c') ctv t0
      exact .of_defaults rfl (kpB _ _ isD nD offD) rfl e1 e2) tk hW hr' (fun A outer s H hr2 => body A outer s H E' fa c' _ _ hr2) hNg hva hd hcd) isC (kind_tt G sm T1 o)
    exact ⟨t', ht'.nox, hq'⟩
  refine wpAny_call (codeAny_mono rc fun r s2 hq => ?_)
  cases r with
  | error e => exact (show False from hq).elim
  | ok fl =>
    cases fl with
    | ret u => exact J1.after hq
    | next => exact False.elim hq
    | brk => exact False.elim hq
    | cont => exact False.elim hq
theorem se_kindFD {x a : Str} {st : Stmt} {g cA tA : Addr} {fd : FuncData} {k : Nat} {Ng : List Str} {ar : Arguments} {bd : Expr} {lam : Scope} {f : EF} {ns : List Nat} {p lpos pos dp : Pos} {i0 : Int} {dj : Nat} {pn0 : Str}
    (ok : CtxOk X c) (hg : Gl X x) (hm : X.mg x = some (.ref g)) (F : Fun X.K x x st g fd) (hb : L2.Binds X.K fd [a] []) (Sg : FnScope Ng [a] (defScope st)) (hNg : Ng[0]? = some a) (hva : Vis (defScope st) a)
    (gives : ∀ (q : Str) (cdg : Value), GivesTo X Ng x (defScope st) g cdg (defBody st) a q (TTkind c ns)) (tab : TabB X.base X.mg cA tA) (code : X.env.code = .ref cA) (inT : (tA, X.env.qual ++ "<lambda>") ∈ TabsOf.T) (one : ∀ p ∈ TabsOf.T, p.1 = tA → p.2 = X.env.qual ++ "<lambda>") (hr : Room (k + 2) X.A) (L : LamP X.env.scope lam [pn0]) (hna : ∀ j : Nat, X.N[j]? ≠ some pn0) (hde : ar.defaults = [.Constant (.int i0) dj dp]) (hkw : ar.kw_defaults = [])
    (bind : ∀ (q : Str) (cl : List (Str × Addr)) (D : Addr) (dc pm cv ctv : Value) (t : Tok), ∃ k : Option (Array Value) → Sem (List (Str × Value)), bindArgs (PySem.W.kdv_fn "<lambda>" q ar (.expr bd) lam cl (.ref D) dc pm cv ctv) ⟨[], []⟩ = seqItems? (PySem.W.kdv_fn "<lambda>" q ar (.expr bd) lam cl (.ref D) dc pm cv ctv).defaults >>= k ∧ k (some #[.int i0 t]) = pure [(pn0, .int i0 t)])
    (body : ∀ (A : Around) (outer : List Env) (s : Shared) (H : Hp) (E : XK) (f' c' : Addr) (pi : List Nat) (pv : Nat → V), Room k (A.deeper (lamEnv X lam s.heap.objs.size f' c')) → SE (lamCx X A outer s H E lam f' c') (c.at pi pv) E bd f)
    (hdb : (x == ("__debug__" : Str)) = false := by decide) (hd : (a == ("__debug__" : Str)) = false := by decide) (hcd : (a == ("__classdict__" : Str)) = false := by decide) (ne1 : starEach [.Lambda ar bd lam lpos] X.env = [(false, eval (.Lambda ar bd lam lpos) X.env)] := by rfl) :
    SE X c E (.Call (.Name x p) [.Lambda ar bd lam lpos] [] pos) (cKind ns f) := by
  obtain ⟨oc, od, kV, doc, pm, an, cdv, ct, osl, e, lk, hcd2⟩ := F.ex
  subst e
  exact se_kindD ok hg hm F.kp lk hcd2 hb Sg hNg hva (gives _ cdv) tab code inT one hr L hna hde hkw bind body hdb hd hcd ne1
end
end TP
set_option linter.all false
set_option maxRecDepth 100000
set_option maxHeartbeats 8000000
noncomputable section
namespace TL
open PySem PySem.Spec PyProof.Rows L2 TP
def topS (i : Nat) : Stmt := PySem.Challenge.pw_tilepyramid_k01_squares_and_views.main.body.getD i (.Pass ⟨0, 0, 0, 0⟩)
variable [TabsOf]
structure Txt (K : PySem.W.Frag) (mg : Str → Option Value) (A : Nat → Addr) (FD : Nat → FuncData) (tk : Nat → Tok) : Prop where
  f_need_levels : Fun K "need_levels" "need_levels" (topS 14) (A 0) (FD 0)
  m_need_levels : mg "need_levels" = some (.ref (A 0))
  b_need_levels : Binds K (FD 0) ["levels"] []
  f_is_square : Fun K "is_square" "is_square" (topS 15) (A 1) (FD 1)
  m_is_square : mg "is_square" = some (.ref (A 1))
  b_is_square : Binds K (FD 1) ["levels", "square"] []
  f_need_square : Fun K "need_square" "need_square" (topS 16) (A 2) (FD 2)
  m_need_square : mg "need_square" = some (.ref (A 2))
  b_need_square : Binds K (FD 2) ["levels", "square"] []
  f_elders_of : Fun K "elders_of" "elders_of" (topS 17) (A 3) (FD 3)
  m_elders_of : mg "elders_of" = some (.ref (A 3))
  b_elders_of : Binds K (FD 3) ["square"] []
  f_elders : Fun K "elders" "elders" (topS 18) (A 4) (FD 4)
  m_elders : mg "elders" = some (.ref (A 4))
  b_elders : Binds K (FD 4) ["levels", "square"] []
  f_is_view : Fun K "is_view" "is_view" (topS 19) (A 5) (FD 5)
  m_is_view : mg "is_view" = some (.ref (A 5))
  b_is_view : Binds K (FD 5) ["levels", "view"] []
  f_need_view : Fun K "need_view" "need_view" (topS 20) (A 6) (FD 6)
  m_need_view : mg "need_view" = some (.ref (A 6))
  b_need_view : Binds K (FD 6) ["levels", "view"] []
  f_wanted_of : Fun K "wanted_of" "wanted_of" (topS 21) (A 7) (FD 7)
  m_wanted_of : mg "wanted_of" = some (.ref (A 7))
  b_wanted_of : Binds K (FD 7) ["view"] []
  f_wanted : Fun K "wanted" "wanted" (topS 22) (A 8) (FD 8)
  m_wanted : mg "wanted" = some (.ref (A 8))
  b_wanted : Binds K (FD 8) ["levels", "view"] []
  f__law_mix : Fun K "_law_mix" "_law_mix" (topS 24) (A 9) (FD 9)
  m__law_mix : mg "_law_mix" = some (.ref (A 9))
  b__law_mix : Binds K (FD 9) ["_law_script", "_law_seed"] []
  f__law_next : Fun K "_law_next" "_law_next" (topS 25) (A 10) (FD 10)
  m__law_next : mg "_law_next" = some (.ref (A 10))
  b__law_next : Binds K (FD 10) ["_law_h", "_law_many"] []
  f__law_alike : Fun K "_law_alike" "_law_alike" (topS 26) (A 11) (FD 11)
  m__law_alike : mg "_law_alike" = some (.ref (A 11))
  b__law_alike : Binds K (FD 11) ["_law_found", "_law_due"] []
  f__law_side : Fun K "_law_side" "_law_side" (topS 27) (A 12) (FD 12)
  m__law_side : mg "_law_side" = some (.ref (A 12))
  b__law_side : Binds K (FD 12) ["_law_level"] []
  f__law_view : Fun K "_law_view" "_law_view" (topS 28) (A 13) (FD 13)
  m__law_view : mg "_law_view" = some (.ref (A 13))
  b__law_view : Binds K (FD 13) ["_law_h", "_law_levels"] []
  f__law_wants : Fun K "_law_wants" "_law_wants" (topS 29) (A 14) (FD 14)
  m__law_wants : mg "_law_wants" = some (.ref (A 14))
  b__law_wants : Binds K (FD 14) ["_law_view_here"] []
  f__law_over : Fun K "_law_over" "_law_over" (topS 30) (A 15) (FD 15)
  m__law_over : mg "_law_over" = some (.ref (A 15))
  b__law_over : Binds K (FD 15) ["_law_square", "_law_level"] []
  f__law_is_view : Fun K "_law_is_view" "_law_is_view" (topS 32) (A 17) (FD 17)
  m__law_is_view : mg "_law_is_view" = some (.ref (A 17))
  b__law_is_view : Binds K (FD 17) ["_law_levels", "_law_view_here"] []
  f__law_odd : Fun K "_law_odd" "_law_odd" (topS 33) (A 18) (FD 18)
  m__law_odd : mg "_law_odd" = some (.ref (A 18))
  b__law_odd : Binds K (FD 18) ["_law_h", "_law_levels"] []
  f_law : Fun K "law" "law" (topS 34) (A 19) (FD 19)
  m_law : mg "law" = some (.ref (A 19))
  b_law : Binds K (FD 19) ["_law_script"] []
  fc_law : FunC K "law" "law" (topS 34) (A 19) (FD 19) (.ref (A 350))
  f__law_kind : Fun K "_law_kind" "_law_kind" (topS 31) (A 16) (FD 16)
  m__law_kind : mg "_law_kind" = some (.ref (A 16))
  b__law_kind : Binds K (FD 16) ["_law_work"] []
  m_TileError : mg "TileError" = some (.ref (A 100))
  m_BadRoom : mg "BadRoom" = some (.ref (A 104))
  m_BadWay : mg "BadWay" = some (.ref (A 105))
  m_TooSmall : mg "TooSmall" = some (.ref (A 106))
  m_BadMoments : mg "BadMoments" = some (.ref (A 107))
  m_BadText : mg "BadText" = some (.ref (A 108))
  xc_1 : ExcC K (A 101)
  em_1 : PySem.W.exmOne K (.ref (A 101)) (.ref (A 100)) = some true
  kv_1 : PySem.W.kitOne K (.ref (A 101)) (.type "ValueError") = some true
  kt_1_1 : PySem.W.kitOne K (.ref (A 101)) (.ref (A 101)) = some true
  kt_1_2 : PySem.W.kitOne K (.ref (A 101)) (.ref (A 102)) = some false
  kt_1_3 : PySem.W.kitOne K (.ref (A 101)) (.ref (A 103)) = some false
  kt_1_4 : PySem.W.kitOne K (.ref (A 101)) (.ref (A 104)) = some false
  kt_1_5 : PySem.W.kitOne K (.ref (A 101)) (.ref (A 105)) = some false
  kt_1_6 : PySem.W.kitOne K (.ref (A 101)) (.ref (A 106)) = some false
  kt_1_7 : PySem.W.kitOne K (.ref (A 101)) (.ref (A 107)) = some false
  kt_1_8 : PySem.W.kitOne K (.ref (A 101)) (.ref (A 108)) = some false
  xc_2 : ExcC K (A 102)
  em_2 : PySem.W.exmOne K (.ref (A 102)) (.ref (A 100)) = some true
  kv_2 : PySem.W.kitOne K (.ref (A 102)) (.type "ValueError") = some true
  kt_2_1 : PySem.W.kitOne K (.ref (A 102)) (.ref (A 101)) = some false
  kt_2_2 : PySem.W.kitOne K (.ref (A 102)) (.ref (A 102)) = some true
  kt_2_3 : PySem.W.kitOne K (.ref (A 102)) (.ref (A 103)) = some false
  kt_2_4 : PySem.W.kitOne K (.ref (A 102)) (.ref (A 104)) = some false
  kt_2_5 : PySem.W.kitOne K (.ref (A 102)) (.ref (A 105)) = some false
  kt_2_6 : PySem.W.kitOne K (.ref (A 102)) (.ref (A 106)) = some false
  kt_2_7 : PySem.W.kitOne K (.ref (A 102)) (.ref (A 107)) = some false
  kt_2_8 : PySem.W.kitOne K (.ref (A 102)) (.ref (A 108)) = some false
  xc_3 : ExcC K (A 103)
  em_3 : PySem.W.exmOne K (.ref (A 103)) (.ref (A 100)) = some true
  kv_3 : PySem.W.kitOne K (.ref (A 103)) (.type "ValueError") = some true
  kt_3_1 : PySem.W.kitOne K (.ref (A 103)) (.ref (A 101)) = some false
  kt_3_2 : PySem.W.kitOne K (.ref (A 103)) (.ref (A 102)) = some false
  kt_3_3 : PySem.W.kitOne K (.ref (A 103)) (.ref (A 103)) = some true
  kt_3_4 : PySem.W.kitOne K (.ref (A 103)) (.ref (A 104)) = some false
  kt_3_5 : PySem.W.kitOne K (.ref (A 103)) (.ref (A 105)) = some false
  kt_3_6 : PySem.W.kitOne K (.ref (A 103)) (.ref (A 106)) = some false
  kt_3_7 : PySem.W.kitOne K (.ref (A 103)) (.ref (A 107)) = some false
  kt_3_8 : PySem.W.kitOne K (.ref (A 103)) (.ref (A 108)) = some false
  m_BadPicture : mg "BadPicture" = some (.ref (A 101))
  x_BadPicture : PySem.W.excIn K (A 101) [.type "ValueError", .type "Exception", .type "BaseException", .type "object"] "ValueError.__new__" = true
  k_BadPicture : PySem.W.keepIn K (.ref (A 101)) = true
  s_BadPicture : PySem.W.subIn K (.ref (A 101)) (.type "BaseException") = some true
  t_BadPicture : PySem.W.typeIn K (.ref (A 101)) = some (.type "type")
  m_BadSquare : mg "BadSquare" = some (.ref (A 102))
  x_BadSquare : PySem.W.excIn K (A 102) [.type "ValueError", .type "Exception", .type "BaseException", .type "object"] "ValueError.__new__" = true
  k_BadSquare : PySem.W.keepIn K (.ref (A 102)) = true
  s_BadSquare : PySem.W.subIn K (.ref (A 102)) (.type "BaseException") = some true
  t_BadSquare : PySem.W.typeIn K (.ref (A 102)) = some (.type "type")
  m_BadView : mg "BadView" = some (.ref (A 103))
  x_BadView : PySem.W.excIn K (A 103) [.type "ValueError", .type "Exception", .type "BaseException", .type "object"] "ValueError.__new__" = true
  k_BadView : PySem.W.keepIn K (.ref (A 103)) = true
  s_BadView : PySem.W.subIn K (.ref (A 103)) (.type "BaseException") = some true
  t_BadView : PySem.W.typeIn K (.ref (A 103)) = some (.type "type")
  z_ValueError : mg "ValueError" = none
  z_bool : mg "bool" = none
  z_int : mg "int" = none
  z_isinstance : mg "isinstance" = none
  z_len : mg "len" = none
  z_list : mg "list" = none
  z_max : mg "max" = none
  z_min : mg "min" = none
  z_range : mg "range" = none
  z_str : mg "str" = none
  z_tuple : mg "tuple" = none
  g_MOST_LEVELS : mg "MOST_LEVELS" = some (.int 6 (tk 11))
  g_MOST_WANTED : mg "MOST_WANTED" = some (.int 16 (tk 12))
  g_SIDES : mg "SIDES" = some (.ref (A 213))
  e_SIDES : ∀ I, Dp K I (.ref (A 213)) c_SIDES
abbrev cc (P : Program) (w : World) (K : PySem.W.Frag) (A : Nat → Addr) : TP.Ctx := ⟨K, fun n => A (100 + n), fun _ => [], [], fun _ => .non, P, w⟩
section
variable {P : Program} {w : World} {K : PySem.W.Frag} {mg : Str → Option Value} {base : Heap} {A : Nat → Addr} {FD : Nat → FuncData} {tk : Nat → Tok}
theorem Txt.pmk_BadPicture {X : Cx} {m : Str} {j : Nat} {p p2 pos : Pos} (T : Txt X.K X.mg A FD tk) (hg : Gl X "BadPicture") : PMk X (.Call (.Name "BadPicture" p) [.Constant (.str m) j p2] [] pos) (fun _ H Q => Q (.ref (A 101)) none H) :=
  pmk_own PySem.F.excBase_ValueError T.x_BadPicture T.m_BadPicture T.k_BadPicture (raises_own T.s_BadPicture T.t_BadPicture) hg
theorem Txt.pmk_BadSquare {X : Cx} {m : Str} {j : Nat} {p p2 pos : Pos} (T : Txt X.K X.mg A FD tk) (hg : Gl X "BadSquare") : PMk X (.Call (.Name "BadSquare" p) [.Constant (.str m) j p2] [] pos) (fun _ H Q => Q (.ref (A 102)) none H) :=
  pmk_own PySem.F.excBase_ValueError T.x_BadSquare T.m_BadSquare T.k_BadSquare (raises_own T.s_BadSquare T.t_BadSquare) hg
theorem Txt.pmk_BadView {X : Cx} {m : Str} {j : Nat} {p p2 pos : Pos} (T : Txt X.K X.mg A FD tk) (hg : Gl X "BadView") : PMk X (.Call (.Name "BadView" p) [.Constant (.str m) j p2] [] pos) (fun _ H Q => Q (.ref (A 103)) none H) :=
  pmk_own PySem.F.excBase_ValueError T.x_BadView T.m_BadView T.k_BadView (raises_own T.s_BadView T.t_BadView) hg
theorem d_MOST_LEVELS (T : Txt K mg A FD tk) (I : Hp) : Dp K I (.int 6) c_MOST_LEVELS := .int _
theorem d_MOST_WANTED (T : Txt K mg A FD tk) (I : Hp) : Dp K I (.int 16) c_MOST_WANTED := .int _
theorem d_SIDES (T : Txt K mg A FD tk) (I : Hp) : Dp K I (.ref (A 213)) c_SIDES := T.e_SIDES I
theorem sc__law_kind : FnScope ["_law_work", "e", "_law_kinds", "_law_words"] ["_law_work"] (defScope (topS 31)) := ⟨rfl, rfl, rfl, by decide +kernel, rfl, by decide +kernel, by decide +kernel⟩
theorem npk {c : TP.Ctx} {i j : Nat} {pv : Nat → V} (h : i ≠ j) : i ∉ (TP.Ctx.at c [j] pv).pi := fun z => h (List.mem_singleton.mp z)
theorem giv_kind {X : Cx} (T : Txt X.K X.mg A FD tk) (hr : Room 1 X.A) (q : Str) (cdg : Value) : LamX.GivesTo X ["_law_work", "e", "_law_kinds", "_law_words"] "_law_kind" (defScope (topS 31)) (A 16) cdg (defBody (topS 31)) "_law_work" q (TTkind (cc X.prog X.w X.K A) [1, 2, 3]) := by
  refine gives_kind (hT := p__law_kind_h) (i := 1) sc__law_kind rfl rfl rfl T.m_TileError (by decide) (fun _ => rfl) (fun n hn => ?_) (fun n hn s H aE oe pn hz hf => ?_) (fun n hn => ?_)
  · simp only [List.mem_cons, List.not_mem_nil, or_false] at hn
    rcases hn with rfl | rfl | rfl
    · exact T.em_1
    · exact T.em_2
    · exact T.em_3
  · simp only [List.mem_cons, List.not_mem_nil, or_false] at hn
    rcases hn with rfl | rfl | rfl
    · have ok : CtxOk ((gCx X ["_law_work", "e", "_law_kinds", "_law_words"] "_law_kind" (defScope (topS 31)) (A 16) cdg s H).suite aE ((aE, oe) :: pn)) ((cc X.prog X.w X.K A).at [1] fun _ => .ref aE) := ⟨rfl, fun _ => List.nodup_nil, rfl, rfl⟩
      have hu4 : ((gCx X ["_law_work", "e", "_law_kinds", "_law_words"] "_law_kind" (defScope (topS 31)) (A 16) cdg s H).suite aE ((aE, oe) :: pn)).A.units + 64 < cLine := (hr.deeper (envOfC "_law_kind" (defScope (topS 31)) s.heap.objs.size (A 16) cdg)).units
      have sc := sc__law_kind
      exact sss_cons (ss_set (npk (by decide)) sc.nd rfl (Or.inl rfl) (se_lst ok (.cons (so_e (se_isx (v := .ref (A 101)) T.xc_1 hz hf rfl (Or.inl rfl) (List.mem_singleton.mpr rfl) rfl T.kt_1_1 (fun _ r => r) rfl T.z_isinstance (pe_glob rfl T.m_BadPicture rfl))) rfl (.cons (so_e (se_isx (v := .ref (A 102)) T.xc_1 hz hf rfl (Or.inl rfl) (List.mem_singleton.mpr rfl) rfl T.kt_1_2 (fun _ r => r) rfl T.z_isinstance (pe_glob rfl T.m_BadSquare rfl))) rfl (.cons (so_e (se_isx (v := .ref (A 103)) T.xc_1 hz hf rfl (Or.inl rfl) (List.mem_singleton.mpr rfl) rfl T.kt_1_3 (fun _ r => r) rfl T.z_isinstance (pe_glob rfl T.m_BadView rfl))) rfl (.cons (so_e (se_isx (v := .ref (A 104)) T.xc_1 hz hf rfl (Or.inl rfl) (List.mem_singleton.mpr rfl) rfl T.kt_1_4 (fun _ r => r) rfl T.z_isinstance (pe_glob rfl T.m_BadRoom rfl))) rfl .nil))))) rfl (Or.inr rfl)) (sss_cons (ss_set (npk (by decide)) sc.nd rfl (Or.inl rfl) (se_bin ok op_addU n_add (so_var 2 rfl (Or.inl rfl)) (so_e (se_lst ok (.cons (so_e (se_isx (v := .ref (A 105)) T.xc_1 hz hf rfl (Or.inl rfl) (List.mem_singleton.mpr rfl) rfl T.kt_1_5 (fun _ r => r) rfl T.z_isinstance (pe_glob rfl T.m_BadWay rfl))) rfl (.cons (so_e (se_isx (v := .ref (A 106)) T.xc_1 hz hf rfl (Or.inl rfl) (List.mem_singleton.mpr rfl) rfl T.kt_1_6 (fun _ r => r) rfl T.z_isinstance (pe_glob rfl T.m_TooSmall rfl))) rfl (.cons (so_e (se_isx (v := .ref (A 107)) T.xc_1 hz hf rfl (Or.inl rfl) (List.mem_singleton.mpr rfl) rfl T.kt_1_7 (fun _ r => r) rfl T.z_isinstance (pe_glob rfl T.m_BadMoments rfl))) rfl .nil)))))) rfl (Or.inr rfl)) (sss_cons (ss_expr (se_mut ok PySem.F.plainAttrs_list PySem.F.slot_list_append PySem.F.type_list_append mt_append ty_list rfl n_append (sp_var 2 rfl (Or.inl rfl)) (.cons (so_e (se_isx (v := .ref (A 108)) T.xc_1 hz hf rfl (Or.inl rfl) (List.mem_singleton.mpr rfl) rfl T.kt_1_8 (fun _ r => r) rfl T.z_isinstance (pe_glob rfl T.m_BadText rfl))) rfl .nil))) (sss_cons (ss_set (npk (by decide)) sc.nd rfl (Or.inl rfl) (se_lst ok (.cons so_str rfl (.cons so_str rfl (.cons so_str rfl (.cons so_str rfl (.cons so_str rfl (.cons so_str rfl (.cons so_str rfl (.cons so_str rfl .nil))))))))) rfl (Or.inr rfl)) (sss_cons (ss_if (st_w (sw_or (st_cmp ok (op_neD hu4) n_ne (so_e (se_mut ok PySem.F.plainAttrs_list PySem.F.slot_list_count PySem.F.type_list_count mt_cntB ty_list rfl n_count (sp_var 2 rfl (Or.inl rfl)) (.cons so_bl rfl .nil))) so_int rfl) (sw_or1 (st_not (st_val (se_isx (v := .ty "ValueError") T.xc_1 hz hf rfl (Or.inl rfl) (List.mem_singleton.mpr rfl) rfl T.kv_1 (fun _ r => r) rfl T.z_isinstance (pe_bltn rfl T.z_ValueError boot_ValueErrorT rfl))))))) (sss_one (ss_ret se_str)) sss_nil) (sss_one (ss_ret (se_ix ok ix_seq n_ix (so_var 3 rfl (Or.inl rfl)) (so_e (se_mut ok PySem.F.plainAttrs_list PySem.F.slot_list_index PySem.F.type_list_index mt_index ty_list rfl n_index (sp_var 2 rfl (Or.inl rfl)) (.cons so_bl rfl .nil))))))))))
    · have ok : CtxOk ((gCx X ["_law_work", "e", "_law_kinds", "_law_words"] "_law_kind" (defScope (topS 31)) (A 16) cdg s H).suite aE ((aE, oe) :: pn)) ((cc X.prog X.w X.K A).at [1] fun _ => .ref aE) := ⟨rfl, fun _ => List.nodup_nil, rfl, rfl⟩
      have hu4 : ((gCx X ["_law_work", "e", "_law_kinds", "_law_words"] "_law_kind" (defScope (topS 31)) (A 16) cdg s H).suite aE ((aE, oe) :: pn)).A.units + 64 < cLine := (hr.deeper (envOfC "_law_kind" (defScope (topS 31)) s.heap.objs.size (A 16) cdg)).units
      have sc := sc__law_kind
      exact sss_cons (ss_set (npk (by decide)) sc.nd rfl (Or.inl rfl) (se_lst ok (.cons (so_e (se_isx (v := .ref (A 101)) T.xc_2 hz hf rfl (Or.inl rfl) (List.mem_singleton.mpr rfl) rfl T.kt_2_1 (fun _ r => r) rfl T.z_isinstance (pe_glob rfl T.m_BadPicture rfl))) rfl (.cons (so_e (se_isx (v := .ref (A 102)) T.xc_2 hz hf rfl (Or.inl rfl) (List.mem_singleton.mpr rfl) rfl T.kt_2_2 (fun _ r => r) rfl T.z_isinstance (pe_glob rfl T.m_BadSquare rfl))) rfl (.cons (so_e (se_isx (v := .ref (A 103)) T.xc_2 hz hf rfl (Or.inl rfl) (List.mem_singleton.mpr rfl) rfl T.kt_2_3 (fun _ r => r) rfl T.z_isinstance (pe_glob rfl T.m_BadView rfl))) rfl (.cons (so_e (se_isx (v := .ref (A 104)) T.xc_2 hz hf rfl (Or.inl rfl) (List.mem_singleton.mpr rfl) rfl T.kt_2_4 (fun _ r => r) rfl T.z_isinstance (pe_glob rfl T.m_BadRoom rfl))) rfl .nil))))) rfl (Or.inr rfl)) (sss_cons (ss_set (npk (by decide)) sc.nd rfl (Or.inl rfl) (se_bin ok op_addU n_add (so_var 2 rfl (Or.inl rfl)) (so_e (se_lst ok (.cons (so_e (se_isx (v := .ref (A 105)) T.xc_2 hz hf rfl (Or.inl rfl) (List.mem_singleton.mpr rfl) rfl T.kt_2_5 (fun _ r => r) rfl T.z_isinstance (pe_glob rfl T.m_BadWay rfl))) rfl (.cons (so_e (se_isx (v := .ref (A 106)) T.xc_2 hz hf rfl (Or.inl rfl) (List.mem_singleton.mpr rfl) rfl T.kt_2_6 (fun _ r => r) rfl T.z_isinstance (pe_glob rfl T.m_TooSmall rfl))) rfl (.cons (so_e (se_isx (v := .ref (A 107)) T.xc_2 hz hf rfl (Or.inl rfl) (List.mem_singleton.mpr rfl) rfl T.kt_2_7 (fun _ r => r) rfl T.z_isinstance (pe_glob rfl T.m_BadMoments rfl))) rfl .nil)))))) rfl (Or.inr rfl)) (sss_cons (ss_expr (se_mut ok PySem.F.plainAttrs_list PySem.F.slot_list_append PySem.F.type_list_append mt_append ty_list rfl n_append (sp_var 2 rfl (Or.inl rfl)) (.cons (so_e (se_isx (v := .ref (A 108)) T.xc_2 hz hf rfl (Or.inl rfl) (List.mem_singleton.mpr rfl) rfl T.kt_2_8 (fun _ r => r) rfl T.z_isinstance (pe_glob rfl T.m_BadText rfl))) rfl .nil))) (sss_cons (ss_set (npk (by decide)) sc.nd rfl (Or.inl rfl) (se_lst ok (.cons so_str rfl (.cons so_str rfl (.cons so_str rfl (.cons so_str rfl (.cons so_str rfl (.cons so_str rfl (.cons so_str rfl (.cons so_str rfl .nil))))))))) rfl (Or.inr rfl)) (sss_cons (ss_if (st_w (sw_or (st_cmp ok (op_neD hu4) n_ne (so_e (se_mut ok PySem.F.plainAttrs_list PySem.F.slot_list_count PySem.F.type_list_count mt_cntB ty_list rfl n_count (sp_var 2 rfl (Or.inl rfl)) (.cons so_bl rfl .nil))) so_int rfl) (sw_or1 (st_not (st_val (se_isx (v := .ty "ValueError") T.xc_2 hz hf rfl (Or.inl rfl) (List.mem_singleton.mpr rfl) rfl T.kv_2 (fun _ r => r) rfl T.z_isinstance (pe_bltn rfl T.z_ValueError boot_ValueErrorT rfl))))))) (sss_one (ss_ret se_str)) sss_nil) (sss_one (ss_ret (se_ix ok ix_seq n_ix (so_var 3 rfl (Or.inl rfl)) (so_e (se_mut ok PySem.F.plainAttrs_list PySem.F.slot_list_index PySem.F.type_list_index mt_index ty_list rfl n_index (sp_var 2 rfl (Or.inl rfl)) (.cons so_bl rfl .nil))))))))))
    · have ok : CtxOk ((gCx X ["_law_work", "e", "_law_kinds", "_law_words"] "_law_kind" (defScope (topS 31)) (A 16) cdg s H).suite aE ((aE, oe) :: pn)) ((cc X.prog X.w X.K A).at [1] fun _ => .ref aE) := ⟨rfl, fun _ => List.nodup_nil, rfl, rfl⟩
      have hu4 : ((gCx X ["_law_work", "e", "_law_kinds", "_law_words"] "_law_kind" (defScope (topS 31)) (A 16) cdg s H).suite aE ((aE, oe) :: pn)).A.units + 64 < cLine := (hr.deeper (envOfC "_law_kind" (defScope (topS 31)) s.heap.objs.size (A 16) cdg)).units
      have sc := sc__law_kind
      exact sss_cons (ss_set (npk (by decide)) sc.nd rfl (Or.inl rfl) (se_lst ok (.cons (so_e (se_isx (v := .ref (A 101)) T.xc_3 hz hf rfl (Or.inl rfl) (List.mem_singleton.mpr rfl) rfl T.kt_3_1 (fun _ r => r) rfl T.z_isinstance (pe_glob rfl T.m_BadPicture rfl))) rfl (.cons (so_e (se_isx (v := .ref (A 102)) T.xc_3 hz hf rfl (Or.inl rfl) (List.mem_singleton.mpr rfl) rfl T.kt_3_2 (fun _ r => r) rfl T.z_isinstance (pe_glob rfl T.m_BadSquare rfl))) rfl (.cons (so_e (se_isx (v := .ref (A 103)) T.xc_3 hz hf rfl (Or.inl rfl) (List.mem_singleton.mpr rfl) rfl T.kt_3_3 (fun _ r => r) rfl T.z_isinstance (pe_glob rfl T.m_BadView rfl))) rfl (.cons (so_e (se_isx (v := .ref (A 104)) T.xc_3 hz hf rfl (Or.inl rfl) (List.mem_singleton.mpr rfl) rfl T.kt_3_4 (fun _ r => r) rfl T.z_isinstance (pe_glob rfl T.m_BadRoom rfl))) rfl .nil))))) rfl (Or.inr rfl)) (sss_cons (ss_set (npk (by decide)) sc.nd rfl (Or.inl rfl) (se_bin ok op_addU n_add (so_var 2 rfl (Or.inl rfl)) (so_e (se_lst ok (.cons (so_e (se_isx (v := .ref (A 105)) T.xc_3 hz hf rfl (Or.inl rfl) (List.mem_singleton.mpr rfl) rfl T.kt_3_5 (fun _ r => r) rfl T.z_isinstance (pe_glob rfl T.m_BadWay rfl))) rfl (.cons (so_e (se_isx (v := .ref (A 106)) T.xc_3 hz hf rfl (Or.inl rfl) (List.mem_singleton.mpr rfl) rfl T.kt_3_6 (fun _ r => r) rfl T.z_isinstance (pe_glob rfl T.m_TooSmall rfl))) rfl (.cons (so_e (se_isx (v := .ref (A 107)) T.xc_3 hz hf rfl (Or.inl rfl) (List.mem_singleton.mpr rfl) rfl T.kt_3_7 (fun _ r => r) rfl T.z_isinstance (pe_glob rfl T.m_BadMoments rfl))) rfl .nil)))))) rfl (Or.inr rfl)) (sss_cons (ss_expr (se_mut ok PySem.F.plainAttrs_list PySem.F.slot_list_append PySem.F.type_list_append mt_append ty_list rfl n_append (sp_var 2 rfl (Or.inl rfl)) (.cons (so_e (se_isx (v := .ref (A 108)) T.xc_3 hz hf rfl (Or.inl rfl) (List.mem_singleton.mpr rfl) rfl T.kt_3_8 (fun _ r => r) rfl T.z_isinstance (pe_glob rfl T.m_BadText rfl))) rfl .nil))) (sss_cons (ss_set (npk (by decide)) sc.nd rfl (Or.inl rfl) (se_lst ok (.cons so_str rfl (.cons so_str rfl (.cons so_str rfl (.cons so_str rfl (.cons so_str rfl (.cons so_str rfl (.cons so_str rfl (.cons so_str rfl .nil))))))))) rfl (Or.inr rfl)) (sss_cons (ss_if (st_w (sw_or (st_cmp ok (op_neD hu4) n_ne (so_e (se_mut ok PySem.F.plainAttrs_list PySem.F.slot_list_count PySem.F.type_list_count mt_cntB ty_list rfl n_count (sp_var 2 rfl (Or.inl rfl)) (.cons so_bl rfl .nil))) so_int rfl) (sw_or1 (st_not (st_val (se_isx (v := .ty "ValueError") T.xc_3 hz hf rfl (Or.inl rfl) (List.mem_singleton.mpr rfl) rfl T.kv_3 (fun _ r => r) rfl T.z_isinstance (pe_bltn rfl T.z_ValueError boot_ValueErrorT rfl))))))) (sss_one (ss_ret se_str)) sss_nil) (sss_one (ss_ret (se_ix ok ix_seq n_ix (so_var 3 rfl (Or.inl rfl)) (so_e (se_mut ok PySem.F.plainAttrs_list PySem.F.slot_list_index PySem.F.type_list_index mt_index ty_list rfl n_index (sp_var 2 rfl (Or.inl rfl)) (.cons so_bl rfl .nil))))))))))
  · simp only [List.mem_cons, List.not_mem_nil, or_false] at hn
    rcases hn with rfl | rfl | rfl
    · exact ⟨_, rfl⟩
    · exact ⟨_, rfl⟩
    · exact ⟨_, rfl⟩
theorem sc_need_levels : FnScope ["levels"] ["levels"] (defScope (topS 14)) := ⟨rfl, rfl, rfl, by decide +kernel, rfl, by decide +kernel, by decide +kernel⟩
theorem ok_need_levels (T : Txt K mg A FD tk) : FnOk P w K mg base (L2.CX P w) 1 (A 0) (FD 0) ["levels"] (spG (cc P w K A) g_need_levels) := by
  have h1 := fun hb => def_is (P := P) (w := w) (mg := mg) (base := base) (c := cc P w K A) (s := p_need_levels) (k := 0) rfl rfl (fun _ => List.nodup_nil) T.f_need_levels sc_need_levels hb
  refine h1 ?_
  intro cdv A' outer sh H E pv hr ok tk hx hp hu4 hu5
  have sc := sc_need_levels
  exact sss_one (ss_if (st_not (st_chain op_le op_le se_int (se_var 0 rfl (Or.inl rfl)) (se_glob (d_MOST_LEVELS T) rfl T.g_MOST_LEVELS ⟨_, rfl⟩))) (sss_one (ss_raise rfl tk (by exact T.pmk_BadPicture rfl))) sss_nil)
theorem sc_is_square : FnScope ["levels", "square", "level", "x", "y"] ["levels", "square"] (defScope (topS 15)) := ⟨rfl, rfl, rfl, by decide +kernel, rfl, by decide +kernel, by decide +kernel⟩
theorem ok_is_square (T : Txt K mg A FD tk) : FnOk P w K mg base (L2.CX P w) 1 (A 1) (FD 1) ["levels", "square"] (spG (cc P w K A) g_is_square) := by
  have h1 := fun hb => def_is (P := P) (w := w) (mg := mg) (base := base) (c := cc P w K A) (s := p_is_square) (k := 0) rfl rfl (fun _ => List.nodup_nil) T.f_is_square sc_is_square hb
  refine h1 ?_
  intro cdv A' outer sh H E pv hr ok tk hx hp hu4 hu5
  have sc := sc_is_square
  exact sss_cons (ss_asg (se_var 1 rfl (Or.inl rfl)) (sg_tup ok rfl (sgs_cons (sg_name (npi (by decide)) sc.nd rfl (Or.inl rfl) (Or.inr rfl)) (sgs_cons (sg_name (npi (by decide)) sc.nd rfl (Or.inl rfl) (Or.inr rfl)) (sgs_cons (sg_name (npi (by decide)) sc.nd rfl (Or.inl rfl) (Or.inr rfl)) sgs_nil))))) (sss_one (ss_ret (se_and (se_chain op_le op_lt se_int (se_var 2 rfl (Or.inl rfl)) (se_var 0 rfl (Or.inl rfl))) (se_and (se_chain op_le op_lt se_int (se_var 3 rfl (Or.inl rfl)) (se_ix ok ix_seq n_ix (so_glob (d_SIDES T) rfl T.g_SIDES rfl) (so_var 2 rfl (Or.inl rfl)))) (se_one (se_chain op_le op_lt se_int (se_var 4 rfl (Or.inl rfl)) (se_ix ok ix_seq n_ix (so_glob (d_SIDES T) rfl T.g_SIDES rfl) (so_var 2 rfl (Or.inl rfl)))))))))
theorem sc_need_square : FnScope ["levels", "square"] ["levels", "square"] (defScope (topS 16)) := ⟨rfl, rfl, rfl, by decide +kernel, rfl, by decide +kernel, by decide +kernel⟩
theorem ok_need_square (T : Txt K mg A FD tk) : FnOk P w K mg base (L2.CX P w) 2 (A 2) (FD 2) ["levels", "square"] (spG (cc P w K A) g_need_square) := by
  have h1 := fun hb => def_is (P := P) (w := w) (mg := mg) (base := base) (c := cc P w K A) (s := p_need_square) (k := 1) rfl rfl (fun _ => List.nodup_nil) T.f_need_square sc_need_square hb
  refine h1 ?_
  intro cdv A' outer sh H E pv hr ok tk hx hp hu4 hu5
  have sc := sc_need_square
  exact sss_one (ss_if (st_not (st_val (se_call ok (TP.FnOk.at (ok_is_square T)) (hr.mono (by decide)) rfl T.m_is_square T.f_is_square.kp T.b_is_square hx (.cons (so_var 0 rfl (Or.inl rfl)) rfl (.cons (so_var 1 rfl (Or.inl rfl)) rfl .nil))))) (sss_one (ss_raise rfl tk (by exact T.pmk_BadSquare rfl))) sss_nil)
theorem sc_elders_of : FnScope ["square", "found", "level", "x", "y"] ["square"] (defScope (topS 17)) := ⟨rfl, rfl, rfl, by decide +kernel, rfl, by decide +kernel, by decide +kernel⟩
theorem ok_elders_of (T : Txt K mg A FD tk) : FnOk P w K mg base (L2.CX P w) 1 (A 3) (FD 3) ["square"] (spG (cc P w K A) g_elders_of) := by
  have h1 := fun hb => def_is (P := P) (w := w) (mg := mg) (base := base) (c := cc P w K A) (s := p_elders_of) (k := 0) rfl rfl (fun _ => List.nodup_nil) T.f_elders_of sc_elders_of hb
  refine h1 ?_
  intro cdv A' outer sh H E pv hr ok tk hx hp hu4 hu5
  have sc := sc_elders_of
  exact sss_cons (ss_set (npi (by decide)) sc.nd rfl (Or.inl rfl) (se_lst ok .nil) rfl (Or.inr rfl)) (sss_cons (ss_asg (se_var 0 rfl (Or.inl rfl)) (sg_tup ok rfl (sgs_cons (sg_name (npi (by decide)) sc.nd rfl (Or.inl rfl) (Or.inr rfl)) (sgs_cons (sg_name (npi (by decide)) sc.nd rfl (Or.inl rfl) (Or.inr rfl)) (sgs_cons (sg_name (npi (by decide)) sc.nd rfl (Or.inl rfl) (Or.inr rfl)) sgs_nil))))) (sss_cons (ss_while hp (st_cmp ok op_gt n_cmp (so_var 2 rfl (Or.inl rfl)) so_int rfl) (sss_cons (ss_par3 ok (npi (by decide)) (npi (by decide)) (npi (by decide)) rfl sc.nd rfl rfl rfl (by decide) (by decide) (by decide) rfl rfl rfl (.cons (so_e (se_bin ok op_sub n_sub (so_var 2 rfl (Or.inl rfl)) so_int)) rfl (.cons (so_e (se_bin ok op_fdiv n_fdiv (so_var 3 rfl (Or.inl rfl)) so_int)) rfl (.cons (so_e (se_bin ok op_fdiv n_fdiv (so_var 4 rfl (Or.inl rfl)) so_int)) rfl .nil))) rfl) (sss_one (ss_expr (se_mut ok PySem.F.plainAttrs_list PySem.F.slot_list_append PySem.F.type_list_append mt_append ty_list rfl n_append (sp_var 1 rfl (Or.inl rfl)) (.cons (so_e (se_tup ok (.cons (so_e (se_var 2 rfl (Or.inl rfl))) rfl (.cons (so_e (se_var 3 rfl (Or.inl rfl))) rfl (.cons (so_e (se_var 4 rfl (Or.inl rfl))) rfl .nil))))) rfl .nil)))))) (sss_one (ss_ret (se_mv 1 rfl (Or.inl rfl))))))
theorem sc_elders : FnScope ["levels", "square"] ["levels", "square"] (defScope (topS 18)) := ⟨rfl, rfl, rfl, by decide +kernel, rfl, by decide +kernel, by decide +kernel⟩
theorem ok_elders (T : Txt K mg A FD tk) : FnOk P w K mg base (L2.CX P w) 3 (A 4) (FD 4) ["levels", "square"] (spG (cc P w K A) g_elders) := by
  have h1 := fun hb => def_is (P := P) (w := w) (mg := mg) (base := base) (c := cc P w K A) (s := p_elders) (k := 2) rfl rfl (fun _ => List.nodup_nil) T.f_elders sc_elders hb
  refine h1 ?_
  intro cdv A' outer sh H E pv hr ok tk hx hp hu4 hu5
  have sc := sc_elders
  exact sss_cons (ss_expr (se_call ok (TP.FnOk.at (ok_need_levels T)) (hr.mono (by decide)) rfl T.m_need_levels T.f_need_levels.kp T.b_need_levels hx (.cons (so_var 0 rfl (Or.inl rfl)) rfl .nil))) (sss_cons (ss_expr (se_call ok (TP.FnOk.at (ok_need_square T)) (hr.mono (by decide)) rfl T.m_need_square T.f_need_square.kp T.b_need_square hx (.cons (so_var 0 rfl (Or.inl rfl)) rfl (.cons (so_var 1 rfl (Or.inl rfl)) rfl .nil)))) (sss_one (ss_ret (se_call ok (TP.FnOk.at (ok_elders_of T)) (hr.mono (by decide)) rfl T.m_elders_of T.f_elders_of.kp T.b_elders_of hx (.cons (so_var 1 rfl (Or.inl rfl)) rfl .nil)))))
theorem sc_is_view : FnScope ["levels", "view", "level", "x", "y", "wide", "high"] ["levels", "view"] (defScope (topS 19)) := ⟨rfl, rfl, rfl, by decide +kernel, rfl, by decide +kernel, by decide +kernel⟩
theorem ok_is_view (T : Txt K mg A FD tk) : FnOk P w K mg base (L2.CX P w) 1 (A 5) (FD 5) ["levels", "view"] (spG (cc P w K A) g_is_view) := by
  have h1 := fun hb => def_is (P := P) (w := w) (mg := mg) (base := base) (c := cc P w K A) (s := p_is_view) (k := 0) rfl rfl (fun _ => List.nodup_nil) T.f_is_view sc_is_view hb
  refine h1 ?_
  intro cdv A' outer sh H E pv hr ok tk hx hp hu4 hu5
  have sc := sc_is_view
  exact sss_cons (ss_asg (se_var 1 rfl (Or.inl rfl)) (sg_tup ok rfl (sgs_cons (sg_name (npi (by decide)) sc.nd rfl (Or.inl rfl) (Or.inr rfl)) (sgs_cons (sg_name (npi (by decide)) sc.nd rfl (Or.inl rfl) (Or.inr rfl)) (sgs_cons (sg_name (npi (by decide)) sc.nd rfl (Or.inl rfl) (Or.inr rfl)) (sgs_cons (sg_name (npi (by decide)) sc.nd rfl (Or.inl rfl) (Or.inr rfl)) (sgs_cons (sg_name (npi (by decide)) sc.nd rfl (Or.inl rfl) (Or.inr rfl)) sgs_nil))))))) (sss_cons (ss_if (st_w (sw_or (st_not (st_chain op_le op_lt se_int (se_var 2 rfl (Or.inl rfl)) (se_var 0 rfl (Or.inl rfl)))) (sw_or (st_cmp ok op_lt n_cmp (so_var 3 rfl (Or.inl rfl)) so_int rfl) (sw_or (st_cmp ok op_lt n_cmp (so_var 4 rfl (Or.inl rfl)) so_int rfl) (sw_or (st_cmp ok op_lt n_cmp (so_var 5 rfl (Or.inl rfl)) so_int rfl) (sw_or (st_cmp ok op_lt n_cmp (so_var 6 rfl (Or.inl rfl)) so_int rfl) (sw_or1 (st_cmp ok op_gt n_cmp (so_e (se_bin ok op_mul n_mul (so_var 5 rfl (Or.inl rfl)) (so_var 6 rfl (Or.inl rfl)))) (so_glob (d_MOST_WANTED T) rfl T.g_MOST_WANTED ⟨_, rfl⟩) rfl)))))))) (sss_one (ss_ret se_bl)) sss_nil) (sss_one (ss_ret (se_and (se_cmp ok op_le n_cmp (so_e (se_bin ok op_addU n_add (so_var 3 rfl (Or.inl rfl)) (so_var 5 rfl (Or.inl rfl)))) (so_e (se_ix ok ix_seq n_ix (so_glob (d_SIDES T) rfl T.g_SIDES rfl) (so_var 2 rfl (Or.inl rfl)))) rfl) (se_one (se_cmp ok op_le n_cmp (so_e (se_bin ok op_addU n_add (so_var 4 rfl (Or.inl rfl)) (so_var 6 rfl (Or.inl rfl)))) (so_e (se_ix ok ix_seq n_ix (so_glob (d_SIDES T) rfl T.g_SIDES rfl) (so_var 2 rfl (Or.inl rfl)))) rfl))))))
theorem sc_need_view : FnScope ["levels", "view"] ["levels", "view"] (defScope (topS 20)) := ⟨rfl, rfl, rfl, by decide +kernel, rfl, by decide +kernel, by decide +kernel⟩
theorem ok_need_view (T : Txt K mg A FD tk) : FnOk P w K mg base (L2.CX P w) 2 (A 6) (FD 6) ["levels", "view"] (spG (cc P w K A) g_need_view) := by
  have h1 := fun hb => def_is (P := P) (w := w) (mg := mg) (base := base) (c := cc P w K A) (s := p_need_view) (k := 1) rfl rfl (fun _ => List.nodup_nil) T.f_need_view sc_need_view hb
  refine h1 ?_
  intro cdv A' outer sh H E pv hr ok tk hx hp hu4 hu5
  have sc := sc_need_view
  exact sss_one (ss_if (st_not (st_val (se_call ok (TP.FnOk.at (ok_is_view T)) (hr.mono (by decide)) rfl T.m_is_view T.f_is_view.kp T.b_is_view hx (.cons (so_var 0 rfl (Or.inl rfl)) rfl (.cons (so_var 1 rfl (Or.inl rfl)) rfl .nil))))) (sss_one (ss_raise rfl tk (by exact T.pmk_BadView rfl))) sss_nil)
theorem sc_wanted_of : FnScope ["view", "level", "x", "y", "wide", "high", "found", "column", "row"] ["view"] (defScope (topS 21)) := ⟨rfl, rfl, rfl, by decide +kernel, rfl, by decide +kernel, by decide +kernel⟩
theorem ok_wanted_of (T : Txt K mg A FD tk) : FnOk P w K mg base (L2.CX P w) 1 (A 7) (FD 7) ["view"] (spG (cc P w K A) g_wanted_of) := by
  have h1 := fun hb => def_is (P := P) (w := w) (mg := mg) (base := base) (c := cc P w K A) (s := p_wanted_of) (k := 0) rfl rfl (fun _ => List.nodup_nil) T.f_wanted_of sc_wanted_of hb
  refine h1 ?_
  intro cdv A' outer sh H E pv hr ok tk hx hp hu4 hu5
  have sc := sc_wanted_of
  exact sss_cons (ss_asg (se_var 0 rfl (Or.inl rfl)) (sg_tup ok rfl (sgs_cons (sg_name (npi (by decide)) sc.nd rfl (Or.inr rfl) (Or.inl rfl)) (sgs_cons (sg_name (npi (by decide)) sc.nd rfl (Or.inl rfl) (Or.inr rfl)) (sgs_cons (sg_name (npi (by decide)) sc.nd rfl (Or.inl rfl) (Or.inr rfl)) (sgs_cons (sg_name (npi (by decide)) sc.nd rfl (Or.inl rfl) (Or.inr rfl)) (sgs_cons (sg_name (npi (by decide)) sc.nd rfl (Or.inl rfl) (Or.inr rfl)) sgs_nil))))))) (sss_cons (ss_set (npi (by decide)) sc.nd rfl (Or.inl rfl) (se_lst ok .nil) rfl (Or.inr rfl)) (sss_cons (ss_for hp rfl (si_rng2 ok rfl T.z_range (so_var 2 rfl (Or.inl rfl)) (so_e (se_bin ok op_addU n_add (so_var 2 rfl (Or.inl rfl)) (so_var 4 rfl (Or.inl rfl))))) (sg_name (npi (by decide)) sc.nd rfl (Or.inr rfl) (Or.inl rfl)) (sss_one (ss_expr (se_mut ok PySem.F.plainAttrs_list PySem.F.slot_list_extend PySem.F.type_list_extend mt_extend ty_list rfl n_extend (sp_var 6 rfl (Or.inl rfl)) (.cons (so_e (se_comp rfl sc.nd (own := [("row", 8)]) (si_rng2 ok rfl T.z_range (so_var 3 rfl (Or.inl rfl)) (so_e (se_bin ok op_addU n_add (so_var 3 rfl (Or.inl rfl)) (so_var 5 rfl (Or.inl rfl))))) ⟨rfl, by decide +kernel, (of_decide_eq_true rfl), (of_decide_eq_true rfl), (of_decide_eq_true rfl)⟩ (by decide) (npi_all (by decide)) (by decide) (fun _ _ _ _ _ => (sg_name (npi (by decide)) sc.nd rfl (Or.inl rfl) (Or.inr rfl))) (fun _ _ _ _ _ => pts_yes) (fun _ _ _ _ _ => se_tup ok.b (.cons (so_e (se_var 1 rfl (Or.inr (Or.inl rfl)))) rfl (.cons (so_e (se_var 7 rfl (Or.inr (Or.inl rfl)))) rfl (.cons (so_e (se_var 8 rfl (Or.inl rfl))) rfl .nil)))))) rfl .nil))))) (sss_one (ss_ret (se_mv 6 rfl (Or.inl rfl))))))
theorem sc_wanted : FnScope ["levels", "view"] ["levels", "view"] (defScope (topS 22)) := ⟨rfl, rfl, rfl, by decide +kernel, rfl, by decide +kernel, by decide +kernel⟩
theorem ok_wanted (T : Txt K mg A FD tk) : FnOk P w K mg base (L2.CX P w) 3 (A 8) (FD 8) ["levels", "view"] (spG (cc P w K A) g_wanted) := by
  have h1 := fun hb => def_is (P := P) (w := w) (mg := mg) (base := base) (c := cc P w K A) (s := p_wanted) (k := 2) rfl rfl (fun _ => List.nodup_nil) T.f_wanted sc_wanted hb
  refine h1 ?_
  intro cdv A' outer sh H E pv hr ok tk hx hp hu4 hu5
  have sc := sc_wanted
  exact sss_cons (ss_expr (se_call ok (TP.FnOk.at (ok_need_levels T)) (hr.mono (by decide)) rfl T.m_need_levels T.f_need_levels.kp T.b_need_levels hx (.cons (so_var 0 rfl (Or.inl rfl)) rfl .nil))) (sss_cons (ss_expr (se_call ok (TP.FnOk.at (ok_need_view T)) (hr.mono (by decide)) rfl T.m_need_view T.f_need_view.kp T.b_need_view hx (.cons (so_var 0 rfl (Or.inl rfl)) rfl (.cons (so_var 1 rfl (Or.inl rfl)) rfl .nil)))) (sss_one (ss_ret (se_call ok (TP.FnOk.at (ok_wanted_of T)) (hr.mono (by decide)) rfl T.m_wanted_of T.f_wanted_of.kp T.b_wanted_of hx (.cons (so_var 1 rfl (Or.inl rfl)) rfl .nil)))))
theorem sc__law_mix : FnScope ["_law_script", "_law_seed", "_law_mixed", "_law_cell"] ["_law_script", "_law_seed"] (defScope (topS 24)) := ⟨rfl, rfl, rfl, by decide +kernel, rfl, by decide +kernel, by decide +kernel⟩
theorem ok__law_mix (T : Txt K mg A FD tk) : FnOk P w K mg base (L2.CX P w) 1 (A 9) (FD 9) ["_law_script", "_law_seed"] (spG (cc P w K A) g__law_mix) := by
  have h1 := fun hb => def_is (P := P) (w := w) (mg := mg) (base := base) (c := cc P w K A) (s := p__law_mix) (k := 0) rfl rfl (fun _ => List.nodup_nil) T.f__law_mix sc__law_mix hb
  refine h1 ?_
  intro cdv A' outer sh H E pv hr ok tk hx hp hu4 hu5
  have sc := sc__law_mix
  exact sss_cons (ss_set (npi (by decide)) sc.nd rfl (Or.inl rfl) (se_var 1 rfl (Or.inl rfl)) rfl (Or.inr rfl)) (sss_cons (ss_for hp rfl (si_list ok (se_var 0 rfl (Or.inl rfl))) (sg_name (npi (by decide)) sc.nd rfl (Or.inl rfl) (Or.inr rfl)) (sss_one (ss_set (npi (by decide)) sc.nd rfl (Or.inl rfl) (se_bin ok op_mod n_mod (so_e (se_bin ok op_addU n_add (so_e (se_bin ok op_addU n_add (so_e (se_bin ok op_mul n_mul (so_var 2 rfl (Or.inl rfl)) so_int)) (so_e (se_bin ok op_mod n_mod (so_var 3 rfl (Or.inl rfl)) so_int)))) so_int)) so_int) rfl (Or.inr rfl)))) (sss_one (ss_ret (se_lst ok (.cons (so_e (se_var 2 rfl (Or.inl rfl))) rfl (.cons (so_e (se_callTy ok call_listU n_list rfl T.z_list PyProof.Rows.boot_list (.cons (so_var 0 rfl (Or.inl rfl)) rfl .nil))) rfl (.cons so_int rfl .nil)))))))
theorem sc__law_next : FnScope ["_law_h", "_law_many", "_law_at", "_law_cell"] ["_law_h", "_law_many"] (defScope (topS 25)) := ⟨rfl, rfl, rfl, by decide +kernel, rfl, by decide +kernel, by decide +kernel⟩
theorem ok__law_next (T : Txt K mg A FD tk) : FnOk P w K mg base (L2.CX P w) 1 (A 10) (FD 10) ["_law_h", "_law_many"] (spG (cc P w K A) g__law_next) := by
  have h1 := fun hb => def_is (P := P) (w := w) (mg := mg) (base := base) (c := cc P w K A) (s := p__law_next) (k := 0) rfl rfl (fun _ => List.nodup_nil) T.f__law_next sc__law_next hb
  refine h1 ?_
  intro cdv A' outer sh H E pv hr ok tk hx hp hu4 hu5
  have sc := sc__law_next
  exact sss_cons (ss_set (npi (by decide)) sc.nd rfl (Or.inl rfl) (se_bin ok op_mod n_mod (so_e (se_get ok (sp_idx ok (sp_var 0 rfl (Or.inl rfl))))) (so_e (se_callB ok (call_maxU rfl) n_max rfl T.z_max PyProof.Rows.boot_max (.cons so_int rfl (.cons (so_e (se_callB ok call_lenU n_len rfl T.z_len PySem.boot_len (.cons (so_p (sp_idx ok (sp_var 0 rfl (Or.inl rfl)))) rfl .nil))) rfl .nil))))) rfl (Or.inr rfl)) (sss_cons (ss_set (npi (by decide)) sc.nd rfl (Or.inl rfl) (se_if (st_notNil ok hu4 (sp_idx ok (sp_var 0 rfl (Or.inl rfl))) rfl) (se_ix ok ix_seq n_ix (so_p (sp_idx ok (sp_var 0 rfl (Or.inl rfl)))) (so_var 2 rfl (Or.inl rfl))) se_int) rfl (Or.inr rfl)) (sss_cons (ss_if (st_cmp ok op_ge n_cmp (so_var 3 rfl (Or.inl rfl)) (so_e (se_bin ok op_pow n_pow so_int so_int)) rfl) (sss_cons (ss_store ok set_list so_list (se_bin ok op_fdiv n_fdiv (so_var 3 rfl (Or.inl rfl)) (so_var 1 rfl (Or.inl rfl))) (sp_idx ok (sp_var 0 rfl (Or.inl rfl))) (so_var 2 rfl (Or.inl rfl))) (sss_one (ss_ret (se_bin ok op_mod n_mod (so_var 3 rfl (Or.inl rfl)) (so_var 1 rfl (Or.inl rfl)))))) sss_nil) (sss_cons (ss_store ok set_list so_list (se_bin ok op_mod n_mod (so_e (se_bin ok op_addU n_add (so_e (se_bin ok op_addU n_add (so_e (se_bin ok op_mul n_mul (so_p (sp_idx ok (sp_var 0 rfl (Or.inl rfl)))) so_int)) (so_e (se_bin ok op_mul n_mul (so_var 3 rfl (Or.inl rfl)) so_int)))) so_int)) so_int) (sp_var 0 rfl (Or.inl rfl)) so_int) (sss_cons (ss_store ok set_list so_list (se_bin ok op_addU n_add (so_p (sp_idx ok (sp_var 0 rfl (Or.inl rfl)))) so_int) (sp_var 0 rfl (Or.inl rfl)) so_int) (sss_one (ss_ret (se_bin ok op_mod n_mod (so_e (se_bin ok op_fdiv n_fdiv (so_p (sp_idx ok (sp_var 0 rfl (Or.inl rfl)))) so_int)) (so_var 1 rfl (Or.inl rfl)))))))))
theorem sc__law_alike : FnScope ["_law_found", "_law_due", "_law_k"] ["_law_found", "_law_due"] (defScope (topS 26)) := ⟨rfl, rfl, rfl, by decide +kernel, rfl, by decide +kernel, by decide +kernel⟩
theorem ok__law_alike (T : Txt K mg A FD tk) : ∀ n : Nat, FnOk P w K mg base (L2.CX P w) (1 + n) (A 11) (FD 11) ["_law_found", "_law_due"] (spG (cc P w K A) (g__law_alike n))
  | 0 => def_no (c := cc P w K A) (k := 0) T.f__law_alike sc__law_alike
  | n + 1 => by
    have F0 := ok__law_alike T n
    have h1 := fun hb => def_is (P := P) (w := w) (mg := mg) (base := base) (c := cc P w K A) (s := p__law_alike (g__law_alike n)) (k := 1 + n) rfl rfl (fun _ => List.nodup_nil) T.f__law_alike sc__law_alike hb
    refine h1 ?_
    intro cdv A' outer sh H E pv hr ok tk hx hp hu4 hu5
    have sc := sc__law_alike
    exact sss_cons (ss_if (st_val (se_isi2 0 1 ok rfl T.z_isinstance (so_var 1 rfl (Or.inr (Or.inl rfl))) rfl T.z_tuple PyProof.Rows.boot_tuple rfl T.z_list PyProof.Rows.boot_list)) (sss_cons (ss_if (st_w (sw_or (st_not (st_val (se_isi2 0 1 ok rfl T.z_isinstance (so_var 0 rfl (Or.inr (Or.inl rfl))) rfl T.z_tuple PyProof.Rows.boot_tuple rfl T.z_list PyProof.Rows.boot_list))) (sw_or1 (st_cmp ok (op_neD hu4) n_ne (so_e (se_isi 1 ok rfl T.z_isinstance (so_var 0 rfl (Or.inr (Or.inl rfl))) rfl T.z_list PyProof.Rows.boot_list)) (so_e (se_isi 1 ok rfl T.z_isinstance (so_var 1 rfl (Or.inr (Or.inl rfl))) rfl T.z_list PyProof.Rows.boot_list)) rfl)))) (sss_one (ss_ret se_bl)) sss_nil) (sss_cons (ss_if (st_cmp ok (op_neD hu4) n_ne (so_e (se_callB ok call_lenU n_len rfl T.z_len PySem.boot_len (.cons (so_var 0 rfl (Or.inr (Or.inl rfl))) rfl .nil))) (so_e (se_callB ok call_lenU n_len rfl T.z_len PySem.boot_len (.cons (so_var 1 rfl (Or.inr (Or.inl rfl))) rfl .nil))) rfl) (sss_one (ss_ret se_bl)) sss_nil) (sss_one (ss_ret (se_cmp ok (op_eqD hu4) n_eq (so_e (se_comp rfl sc.nd (own := [("_law_k", 2)]) (si_rng1 ok rfl T.z_range (so_e (se_callB ok call_lenU n_len rfl T.z_len PySem.boot_len (.cons (so_var 1 rfl (Or.inr (Or.inl rfl))) rfl .nil)))) ⟨rfl, by decide +kernel, (of_decide_eq_true rfl), (of_decide_eq_true rfl), (of_decide_eq_true rfl)⟩ (by decide) (npi_all (by decide)) (by decide) (fun _ _ _ _ _ => (sg_name (npi (by decide)) sc.nd rfl (Or.inl rfl) (Or.inr rfl))) (fun _ _ _ _ _ => pts_if (st_not (st_val (se_peek ok.b (TP.FnOk.at F0) hr rfl T.m__law_alike T.f__law_alike.kp T.b__law_alike passL (.cons (so_e (se_fz (se_ix ok.b ix_seq n_ix (so_var 0 rfl (Or.inr (Or.inl rfl))) (so_var 2 rfl (Or.inl rfl))))) rfl (.cons (so_e (se_fz (se_ix ok.b ix_seq n_ix (so_var 1 rfl (Or.inr (Or.inl rfl))) (so_var 2 rfl (Or.inl rfl))))) rfl .nil)))))) (fun _ _ _ _ _ => se_var 2 rfl (Or.inl rfl)))) (so_e (se_lst ok .nil)) rfl))))) sss_nil) (sss_cons (ss_if (st_cmp ok op_isU n_is (so_var 1 rfl (Or.inr (Or.inl rfl))) so_non rfl) (sss_one (ss_ret (se_cmp ok op_isU n_is (so_var 0 rfl (Or.inr (Or.inl rfl))) so_non rfl))) sss_nil) (sss_cons (ss_if (st_val (se_isi 2 ok rfl T.z_isinstance (so_var 1 rfl (Or.inr (Or.inl rfl))) rfl T.z_str PyProof.Rows.boot_str)) (sss_one (ss_ret (se_and (se_isi 2 ok rfl T.z_isinstance (so_var 0 rfl (Or.inr (Or.inl rfl))) rfl T.z_str PyProof.Rows.boot_str) (se_one (se_cmp ok (op_eqD hu4) n_eq (so_var 0 rfl (Or.inr (Or.inl rfl))) (so_var 1 rfl (Or.inr (Or.inl rfl))) rfl))))) sss_nil) (sss_cons (ss_if (st_w (sw_or (st_val (se_isi 3 ok rfl T.z_isinstance (so_var 1 rfl (Or.inr (Or.inl rfl))) rfl T.z_bool PyProof.Rows.boot_bool)) (sw_or1 (st_val (se_isi 3 ok rfl T.z_isinstance (so_var 0 rfl (Or.inr (Or.inl rfl))) rfl T.z_bool PyProof.Rows.boot_bool))))) (sss_one (ss_ret (se_and (se_isi 3 ok rfl T.z_isinstance (so_var 1 rfl (Or.inr (Or.inl rfl))) rfl T.z_bool PyProof.Rows.boot_bool) (se_and (se_isi 3 ok rfl T.z_isinstance (so_var 0 rfl (Or.inr (Or.inl rfl))) rfl T.z_bool PyProof.Rows.boot_bool) (se_one (se_cmp ok (op_eqD hu4) n_eq (so_var 0 rfl (Or.inr (Or.inl rfl))) (so_var 1 rfl (Or.inr (Or.inl rfl))) rfl)))))) sss_nil) (sss_one (ss_ret (se_and (se_isi 4 ok rfl T.z_isinstance (so_var 0 rfl (Or.inr (Or.inl rfl))) rfl T.z_int PyProof.Rows.boot_int) (se_one (se_cmp ok (op_eqD hu4) n_eq (so_var 0 rfl (Or.inr (Or.inl rfl))) (so_var 1 rfl (Or.inr (Or.inl rfl))) rfl))))))))
theorem sc__law_side : FnScope ["_law_level"] ["_law_level"] (defScope (topS 27)) := ⟨rfl, rfl, rfl, by decide +kernel, rfl, by decide +kernel, by decide +kernel⟩
theorem ok__law_side (T : Txt K mg A FD tk) : FnOk P w K mg base (L2.CX P w) 1 (A 12) (FD 12) ["_law_level"] (spG (cc P w K A) g__law_side) := by
  have h1 := fun hb => def_is (P := P) (w := w) (mg := mg) (base := base) (c := cc P w K A) (s := p__law_side) (k := 0) rfl rfl (fun _ => List.nodup_nil) T.f__law_side sc__law_side hb
  refine h1 ?_
  intro cdv A' outer sh H E pv hr ok tk hx hp hu4 hu5
  have sc := sc__law_side
  exact sss_one (ss_ret (se_ix ok ix_seq n_ix (so_e (se_fz (se_lst ok (.cons so_int rfl (.cons so_int rfl (.cons so_int rfl (.cons so_int rfl (.cons so_int rfl (.cons so_int rfl .nil))))))))) (so_var 0 rfl (Or.inl rfl))))
theorem sc__law_view : FnScope ["_law_h", "_law_levels", "_law_level", "_law_side_here", "_law_wide", "_law_high"] ["_law_h", "_law_levels"] (defScope (topS 28)) := ⟨rfl, rfl, rfl, by decide +kernel, rfl, by decide +kernel, by decide +kernel⟩
theorem ok__law_view (T : Txt K mg A FD tk) : FnOk P w K mg base (L2.CX P w) 2 (A 13) (FD 13) ["_law_h", "_law_levels"] (spG (cc P w K A) g__law_view) := by
  have h1 := fun hb => def_is (P := P) (w := w) (mg := mg) (base := base) (c := cc P w K A) (s := p__law_view) (k := 1) rfl rfl (fun _ => List.nodup_nil) T.f__law_view sc__law_view hb
  refine h1 ?_
  intro cdv A' outer sh H E pv hr ok tk hx hp hu4 hu5
  have sc := sc__law_view
  exact sss_cons (ss_set (npi (by decide)) sc.nd rfl (Or.inl rfl) (se_ix ok ix_seq n_ix (so_e (se_fz (se_lst ok (.cons (so_e (se_bin ok op_sub n_sub (so_var 1 rfl (Or.inl rfl)) so_int)) rfl (.cons (so_e (se_call ok (TP.FnOk.at (ok__law_next T)) (hr.mono (by decide)) rfl T.m__law_next T.f__law_next.kp T.b__law_next hx (.cons (so_var 0 rfl (Or.inl rfl)) rfl (.cons (so_var 1 rfl (Or.inl rfl)) rfl .nil)))) rfl .nil))))) (so_e (se_call ok (TP.FnOk.at (ok__law_next T)) (hr.mono (by decide)) rfl T.m__law_next T.f__law_next.kp T.b__law_next hx (.cons (so_var 0 rfl (Or.inl rfl)) rfl (.cons so_int rfl .nil))))) rfl (Or.inr rfl)) (sss_cons (ss_set (npi (by decide)) sc.nd rfl (Or.inl rfl) (se_call ok (TP.FnOk.at (ok__law_side T)) (hr.mono (by decide)) rfl T.m__law_side T.f__law_side.kp T.b__law_side hx (.cons (so_var 2 rfl (Or.inl rfl)) rfl .nil)) rfl (Or.inr rfl)) (sss_cons (ss_set (npi (by decide)) sc.nd rfl (Or.inl rfl) (se_bin ok op_addU n_add so_int (so_e (se_call ok (TP.FnOk.at (ok__law_next T)) (hr.mono (by decide)) rfl T.m__law_next T.f__law_next.kp T.b__law_next hx (.cons (so_var 0 rfl (Or.inl rfl)) rfl (.cons (so_e (se_callB ok (call_minU rfl) n_min rfl T.z_min PyProof.Rows.boot_min (.cons (so_var 3 rfl (Or.inl rfl)) rfl (.cons (so_e (se_ix ok ix_seq n_ix (so_e (se_fz (se_lst ok (.cons so_int rfl (.cons so_int rfl .nil))))) (so_e (se_bin ok op_fdiv n_fdiv (so_e (se_call ok (TP.FnOk.at (ok__law_next T)) (hr.mono (by decide)) rfl T.m__law_next T.f__law_next.kp T.b__law_next hx (.cons (so_var 0 rfl (Or.inl rfl)) rfl (.cons so_int rfl .nil)))) so_int)))) rfl .nil)))) rfl .nil))))) rfl (Or.inr rfl)) (sss_cons (ss_set (npi (by decide)) sc.nd rfl (Or.inl rfl) (se_bin ok op_addU n_add so_int (so_e (se_call ok (TP.FnOk.at (ok__law_next T)) (hr.mono (by decide)) rfl T.m__law_next T.f__law_next.kp T.b__law_next hx (.cons (so_var 0 rfl (Or.inl rfl)) rfl (.cons (so_e (se_callB ok (call_minU rfl) n_min rfl T.z_min PyProof.Rows.boot_min (.cons (so_var 3 rfl (Or.inl rfl)) rfl (.cons (so_e (se_bin ok op_fdiv n_fdiv so_int (so_var 4 rfl (Or.inl rfl)))) rfl (.cons (so_e (se_bin ok op_addU n_add so_int (so_e (se_bin ok op_mul n_mul so_int (so_e (se_callTy ok call_intU n_int rfl T.z_int PyProof.Rows.boot_int (.cons (so_e (se_cmp ok (op_eqD hu4) n_eq (so_var 4 rfl (Or.inl rfl)) so_int rfl)) rfl .nil))))))) rfl .nil))))) rfl .nil))))) rfl (Or.inr rfl)) (sss_one (ss_ret (se_tup ok (.cons (so_e (se_var 2 rfl (Or.inl rfl))) rfl (.cons (so_e (se_call ok (TP.FnOk.at (ok__law_next T)) (hr.mono (by decide)) rfl T.m__law_next T.f__law_next.kp T.b__law_next hx (.cons (so_var 0 rfl (Or.inl rfl)) rfl (.cons (so_e (se_bin ok op_addU n_add (so_e (se_bin ok op_sub n_sub (so_var 3 rfl (Or.inl rfl)) (so_var 4 rfl (Or.inl rfl)))) so_int)) rfl .nil)))) rfl (.cons (so_e (se_call ok (TP.FnOk.at (ok__law_next T)) (hr.mono (by decide)) rfl T.m__law_next T.f__law_next.kp T.b__law_next hx (.cons (so_var 0 rfl (Or.inl rfl)) rfl (.cons (so_e (se_bin ok op_addU n_add (so_e (se_bin ok op_sub n_sub (so_var 3 rfl (Or.inl rfl)) (so_var 5 rfl (Or.inl rfl)))) so_int)) rfl .nil)))) rfl (.cons (so_e (se_var 4 rfl (Or.inl rfl))) rfl (.cons (so_e (se_var 5 rfl (Or.inl rfl))) rfl .nil)))))))))))
theorem sc__law_wants : FnScope ["_law_view_here", "_law_level", "_law_x", "_law_y", "_law_wide", "_law_high", "_law_k"] ["_law_view_here"] (defScope (topS 29)) := ⟨rfl, rfl, rfl, by decide +kernel, rfl, by decide +kernel, by decide +kernel⟩
theorem ok__law_wants (T : Txt K mg A FD tk) : FnOk P w K mg base (L2.CX P w) 1 (A 14) (FD 14) ["_law_view_here"] (spG (cc P w K A) g__law_wants) := by
  have h1 := fun hb => def_is (P := P) (w := w) (mg := mg) (base := base) (c := cc P w K A) (s := p__law_wants) (k := 0) rfl rfl (fun _ => List.nodup_nil) T.f__law_wants sc__law_wants hb
  refine h1 ?_
  intro cdv A' outer sh H E pv hr ok tk hx hp hu4 hu5
  have sc := sc__law_wants
  exact sss_cons (ss_asg (se_var 0 rfl (Or.inl rfl)) (sg_tup ok rfl (sgs_cons (sg_name (npi (by decide)) sc.nd rfl (Or.inr rfl) (Or.inl rfl)) (sgs_cons (sg_name (npi (by decide)) sc.nd rfl (Or.inr rfl) (Or.inl rfl)) (sgs_cons (sg_name (npi (by decide)) sc.nd rfl (Or.inr rfl) (Or.inl rfl)) (sgs_cons (sg_name (npi (by decide)) sc.nd rfl (Or.inl rfl) (Or.inr rfl)) (sgs_cons (sg_name (npi (by decide)) sc.nd rfl (Or.inr rfl) (Or.inl rfl)) sgs_nil))))))) (sss_one (ss_ret (se_comp rfl sc.nd (own := [("_law_k", 6)]) (si_rng1 ok rfl T.z_range (so_e (se_bin ok op_mul n_mul (so_var 4 rfl (Or.inl rfl)) (so_var 5 rfl (Or.inr (Or.inl rfl)))))) ⟨rfl, by decide +kernel, (of_decide_eq_true rfl), (of_decide_eq_true rfl), (of_decide_eq_true rfl)⟩ (by decide) (npi_all (by decide)) (by decide) (fun _ _ _ _ _ => (sg_name (npi (by decide)) sc.nd rfl (Or.inl rfl) (Or.inr rfl))) (fun _ _ _ _ _ => pts_yes) (fun _ _ _ _ _ => se_tup ok.b (.cons (so_e (se_var 1 rfl (Or.inr (Or.inl rfl)))) rfl (.cons (so_e (se_bin ok.b op_addU n_add (so_var 2 rfl (Or.inr (Or.inl rfl))) (so_e (se_bin ok.b op_fdiv n_fdiv (so_var 6 rfl (Or.inl rfl)) (so_var 5 rfl (Or.inr (Or.inl rfl))))))) rfl (.cons (so_e (se_bin ok.b op_addU n_add (so_var 3 rfl (Or.inr (Or.inl rfl))) (so_e (se_bin ok.b op_mod n_mod (so_var 6 rfl (Or.inl rfl)) (so_var 5 rfl (Or.inr (Or.inl rfl))))))) rfl .nil)))))))
theorem sc__law_over : FnScope ["_law_square", "_law_level", "_law_far"] ["_law_square", "_law_level"] (defScope (topS 30)) := ⟨rfl, rfl, rfl, by decide +kernel, rfl, by decide +kernel, by decide +kernel⟩
theorem ok__law_over (T : Txt K mg A FD tk) : FnOk P w K mg base (L2.CX P w) 2 (A 15) (FD 15) ["_law_square", "_law_level"] (spG (cc P w K A) g__law_over) := by
  have h1 := fun hb => def_is (P := P) (w := w) (mg := mg) (base := base) (c := cc P w K A) (s := p__law_over) (k := 1) rfl rfl (fun _ => List.nodup_nil) T.f__law_over sc__law_over hb
  refine h1 ?_
  intro cdv A' outer sh H E pv hr ok tk hx hp hu4 hu5
  have sc := sc__law_over
  exact sss_cons (ss_set (npi (by decide)) sc.nd rfl (Or.inl rfl) (se_call ok (TP.FnOk.at (ok__law_side T)) (hr.mono (by decide)) rfl T.m__law_side T.f__law_side.kp T.b__law_side hx (.cons (so_e (se_bin ok op_sub n_sub (so_e (se_ix ok ix_seq n_ix (so_var 0 rfl (Or.inl rfl)) so_int)) (so_var 1 rfl (Or.inl rfl)))) rfl .nil)) rfl (Or.inr rfl)) (sss_one (ss_ret (se_tup ok (.cons (so_e (se_var 1 rfl (Or.inl rfl))) rfl (.cons (so_e (se_bin ok op_fdiv n_fdiv (so_e (se_ix ok ix_seq n_ix (so_var 0 rfl (Or.inl rfl)) so_int)) (so_var 2 rfl (Or.inl rfl)))) rfl (.cons (so_e (se_bin ok op_fdiv n_fdiv (so_e (se_ix ok ix_seq n_ix (so_var 0 rfl (Or.inl rfl)) so_int)) (so_var 2 rfl (Or.inl rfl)))) rfl .nil))))))
theorem sc__law_is_view : FnScope ["_law_levels", "_law_view_here", "_law_level", "_law_x", "_law_y", "_law_wide", "_law_high"] ["_law_levels", "_law_view_here"] (defScope (topS 32)) := ⟨rfl, rfl, rfl, by decide +kernel, rfl, by decide +kernel, by decide +kernel⟩
theorem ok__law_is_view (T : Txt K mg A FD tk) : FnOk P w K mg base (L2.CX P w) 2 (A 17) (FD 17) ["_law_levels", "_law_view_here"] (spG (cc P w K A) g__law_is_view) := by
  have h1 := fun hb => def_is (P := P) (w := w) (mg := mg) (base := base) (c := cc P w K A) (s := p__law_is_view) (k := 1) rfl rfl (fun _ => List.nodup_nil) T.f__law_is_view sc__law_is_view hb
  refine h1 ?_
  intro cdv A' outer sh H E pv hr ok tk hx hp hu4 hu5
  have sc := sc__law_is_view
  exact sss_cons (ss_asg (se_var 1 rfl (Or.inl rfl)) (sg_tup ok rfl (sgs_cons (sg_name (npi (by decide)) sc.nd rfl (Or.inl rfl) (Or.inr rfl)) (sgs_cons (sg_name (npi (by decide)) sc.nd rfl (Or.inl rfl) (Or.inr rfl)) (sgs_cons (sg_name (npi (by decide)) sc.nd rfl (Or.inl rfl) (Or.inr rfl)) (sgs_cons (sg_name (npi (by decide)) sc.nd rfl (Or.inl rfl) (Or.inr rfl)) (sgs_cons (sg_name (npi (by decide)) sc.nd rfl (Or.inl rfl) (Or.inr rfl)) sgs_nil))))))) (sss_cons (ss_if (st_w (sw_or (st_not (st_chain op_le op_lt se_int (se_var 2 rfl (Or.inl rfl)) (se_var 0 rfl (Or.inl rfl)))) (sw_or (st_cmp ok op_lt n_cmp (so_e (se_callB ok (call_minU rfl) n_min rfl T.z_min PyProof.Rows.boot_min (.cons (so_var 3 rfl (Or.inl rfl)) rfl (.cons (so_var 4 rfl (Or.inl rfl)) rfl .nil)))) so_int rfl) (sw_or (st_cmp ok op_lt n_cmp (so_e (se_callB ok (call_minU rfl) n_min rfl T.z_min PyProof.Rows.boot_min (.cons (so_var 5 rfl (Or.inl rfl)) rfl (.cons (so_var 6 rfl (Or.inl rfl)) rfl .nil)))) so_int rfl) (sw_or1 (st_cmp ok op_gt n_cmp (so_e (se_bin ok op_mul n_mul (so_var 5 rfl (Or.inl rfl)) (so_var 6 rfl (Or.inl rfl)))) so_int rfl)))))) (sss_one (ss_ret se_bl)) sss_nil) (sss_one (ss_ret (se_cmp ok op_le n_cmp (so_e (se_callB ok (call_maxU rfl) n_max rfl T.z_max PyProof.Rows.boot_max (.cons (so_e (se_bin ok op_addU n_add (so_var 3 rfl (Or.inl rfl)) (so_var 5 rfl (Or.inl rfl)))) rfl (.cons (so_e (se_bin ok op_addU n_add (so_var 4 rfl (Or.inl rfl)) (so_var 6 rfl (Or.inl rfl)))) rfl .nil)))) (so_e (se_call ok (TP.FnOk.at (ok__law_side T)) (hr.mono (by decide)) rfl T.m__law_side T.f__law_side.kp T.b__law_side hx (.cons (so_var 2 rfl (Or.inl rfl)) rfl .nil))) rfl))))
theorem sc__law_odd : FnScope ["_law_h", "_law_levels", "_law_view_here", "_law_far", "_law_k"] ["_law_h", "_law_levels"] (defScope (topS 33)) := ⟨rfl, rfl, rfl, by decide +kernel, rfl, by decide +kernel, by decide +kernel⟩
theorem ok__law_odd (T : Txt K mg A FD tk) : FnOk P w K mg base (L2.CX P w) 3 (A 18) (FD 18) ["_law_h", "_law_levels"] (spG (cc P w K A) g__law_odd) := by
  have h1 := fun hb => def_is (P := P) (w := w) (mg := mg) (base := base) (c := cc P w K A) (s := p__law_odd) (k := 2) rfl rfl (fun _ => List.nodup_nil) T.f__law_odd sc__law_odd hb
  refine h1 ?_
  intro cdv A' outer sh H E pv hr ok tk hx hp hu4 hu5
  have sc := sc__law_odd
  exact sss_cons (ss_set (npi (by decide)) sc.nd rfl (Or.inl rfl) (se_callTy ok call_listU n_list rfl T.z_list PyProof.Rows.boot_list (.cons (so_e (se_call ok (TP.FnOk.at (ok__law_view T)) (hr.mono (by decide)) rfl T.m__law_view T.f__law_view.kp T.b__law_view hx (.cons (so_var 0 rfl (Or.inl rfl)) rfl (.cons (so_var 1 rfl (Or.inl rfl)) rfl .nil)))) rfl .nil)) rfl (Or.inr rfl)) (sss_cons (ss_set (npi (by decide)) sc.nd rfl (Or.inl rfl) (se_call ok (TP.FnOk.at (ok__law_next T)) (hr.mono (by decide)) rfl T.m__law_next T.f__law_next.kp T.b__law_next hx (.cons (so_var 0 rfl (Or.inl rfl)) rfl (.cons (so_e (se_bin ok op_pow n_pow so_int so_int)) rfl .nil))) rfl (Or.inr rfl)) (sss_cons (ss_set (npi (by decide)) sc.nd rfl (Or.inl rfl) (se_call ok (TP.FnOk.at (ok__law_next T)) (hr.mono (by decide)) rfl T.m__law_next T.f__law_next.kp T.b__law_next hx (.cons (so_var 0 rfl (Or.inl rfl)) rfl (.cons so_int rfl .nil))) rfl (Or.inr rfl)) (sss_cons (ss_store ok set_list so_list (se_ix ok ix_seq n_ix (so_e (se_fz (se_lst ok (.cons (so_e (se_bin ok op_addU n_add (so_e (se_ix ok ix_seq n_ix (so_var 2 rfl (Or.inl rfl)) (so_var 4 rfl (Or.inl rfl)))) so_int)) rfl (.cons (so_e (se_bin ok op_sub n_sub (so_e (se_un ok un_neg n_neg so_int)) (so_var 3 rfl (Or.inl rfl)))) rfl (.cons (so_e (se_bin ok op_addU n_add so_int (so_var 3 rfl (Or.inl rfl)))) rfl (.cons so_int rfl (.cons (so_e (se_bin ok op_sub n_sub (so_e (se_ix ok ix_seq n_ix (so_var 2 rfl (Or.inl rfl)) (so_var 4 rfl (Or.inl rfl)))) so_int)) rfl .nil)))))))) (so_e (se_call ok (TP.FnOk.at (ok__law_next T)) (hr.mono (by decide)) rfl T.m__law_next T.f__law_next.kp T.b__law_next hx (.cons (so_var 0 rfl (Or.inl rfl)) rfl (.cons so_int rfl .nil))))) (sp_var 2 rfl (Or.inl rfl)) (so_var 4 rfl (Or.inl rfl))) (sss_one (ss_ret (se_callTy ok call_tupleU n_tuple rfl T.z_tuple PyProof.Rows.boot_tuple (.cons (so_var 2 rfl (Or.inl rfl)) rfl .nil)))))))
theorem sc_law : FnScope ["_law_script", "_law_h", "_law_levels", "_law_turn", "_law_level", "_law_square", "_law_due", "_law_view_here", "_law_again", "_law_found", "_law_told", "_law_far", "_law_side_here", "_law_odd_here", "_law_other", "_law_bad", "_law_k"] ["_law_script"] (defScope (topS 34)) := ⟨rfl, rfl, rfl, by decide +kernel, rfl, by decide +kernel, by decide +kernel⟩
theorem ok_law (T : Txt K mg A FD tk) (tab : LamX.TabB base mg (A 350) (A 351)) (inT : (A 351, (envOfC "law" (defScope (topS 34)) 0 0 .none).qual ++ "<lambda>") ∈ TabsOf.T) (one : ∀ p, p ∈ TabsOf.T → p.1 = A 351 → p.2 = (envOfC "law" (defScope (topS 34)) 0 0 .none).qual ++ "<lambda>") : FnOk P w K mg base (L2.CX P w) 8 (A 19) (FD 19) ["_law_script"] (spG (cc P w K A) g_law) := by
  have h1 := fun hb => def_isC (P := P) (w := w) (mg := mg) (base := base) (c := cc P w K A) (s := p_law) (k := 7) rfl rfl (fun _ => List.nodup_nil) T.fc_law sc_law hb
  refine h1 ?_
  intro A' outer sh H E pv hr ok tk hx hp hu4 hu5
  have sc := sc_law
  exact sss_cons (ss_set (npi (by decide)) sc.nd rfl (Or.inl rfl) (se_call ok (TP.FnOk.at (ok__law_mix T)) (hr.mono (by decide)) rfl T.m__law_mix T.f__law_mix.kp T.b__law_mix hx (.cons (so_var 0 rfl (Or.inl rfl)) rfl (.cons so_int rfl .nil))) rfl (Or.inr rfl)) (sss_cons (ss_set (npi (by decide)) sc.nd rfl (Or.inr rfl) (se_bin ok op_addU n_add so_int (so_e (se_call ok (TP.FnOk.at (ok__law_next T)) (hr.mono (by decide)) rfl T.m__law_next T.f__law_next.kp T.b__law_next hx (.cons (so_var 1 rfl (Or.inl rfl)) rfl (.cons so_int rfl .nil))))) rfl (Or.inl rfl)) (sss_cons (ss_for hp rfl (si_rng1 ok rfl T.z_range so_int) (sg_name (npi (by decide)) sc.nd rfl (Or.inl rfl) (Or.inr rfl)) (sss_cons (ss_set (npi (by decide)) sc.nd rfl (Or.inr rfl) (se_call ok (TP.FnOk.at (ok__law_next T)) (hr.mono (by decide)) rfl T.m__law_next T.f__law_next.kp T.b__law_next hx (.cons (so_var 1 rfl (Or.inl rfl)) rfl (.cons (so_var 2 rfl (Or.inr (Or.inl rfl))) rfl .nil))) rfl (Or.inl rfl)) (sss_cons (ss_set (npi (by decide)) sc.nd rfl (Or.inr rfl) (se_tup ok (.cons (so_e (se_var 4 rfl (Or.inr (Or.inl rfl)))) rfl (.cons (so_e (se_call ok (TP.FnOk.at (ok__law_next T)) (hr.mono (by decide)) rfl T.m__law_next T.f__law_next.kp T.b__law_next hx (.cons (so_var 1 rfl (Or.inl rfl)) rfl (.cons (so_e (se_call ok (TP.FnOk.at (ok__law_side T)) (hr.mono (by decide)) rfl T.m__law_side T.f__law_side.kp T.b__law_side hx (.cons (so_var 4 rfl (Or.inr (Or.inl rfl))) rfl .nil))) rfl .nil)))) rfl (.cons (so_e (se_call ok (TP.FnOk.at (ok__law_next T)) (hr.mono (by decide)) rfl T.m__law_next T.f__law_next.kp T.b__law_next hx (.cons (so_var 1 rfl (Or.inl rfl)) rfl (.cons (so_e (se_call ok (TP.FnOk.at (ok__law_side T)) (hr.mono (by decide)) rfl T.m__law_side T.f__law_side.kp T.b__law_side hx (.cons (so_var 4 rfl (Or.inr (Or.inl rfl))) rfl .nil))) rfl .nil)))) rfl .nil)))) rfl (Or.inl rfl)) (sss_cons (ss_setcomp (npi (by decide)) rfl sc.nd rfl rfl rfl (own := [("_law_k", 16)]) (si_rng1 ok rfl T.z_range (so_var 4 rfl (Or.inr (Or.inl rfl)))) ⟨rfl, by decide +kernel, (of_decide_eq_true rfl), (of_decide_eq_true rfl), (of_decide_eq_true rfl)⟩ (by decide) (npi_all (by decide)) (by decide) (fun _ _ _ _ _ => (sg_name (npi (by decide)) sc.nd rfl (Or.inl rfl) (Or.inr rfl))) (fun _ _ _ _ _ => pts_yes) (fun _ _ _ _ _ => se_call ok.b (TP.FnOk.at (ok__law_over T)) (hr.mono (by decide)) rfl T.m__law_over T.f__law_over.kp T.b__law_over passL (.cons (so_var 5 rfl (Or.inr (Or.inl rfl))) rfl (.cons (so_e (se_bin ok.b op_sub n_sub (so_e (se_bin ok.b op_sub n_sub (so_var 4 rfl (Or.inr (Or.inl rfl))) so_int)) (so_var 16 rfl (Or.inl rfl)))) rfl .nil)))) (sss_cons (ss_set (npi (by decide)) sc.nd rfl (Or.inl rfl) (se_call ok (TP.FnOk.at (ok__law_view T)) (hr.mono (by decide)) rfl T.m__law_view T.f__law_view.kp T.b__law_view hx (.cons (so_var 1 rfl (Or.inl rfl)) rfl (.cons (so_var 2 rfl (Or.inr (Or.inl rfl))) rfl .nil))) rfl (Or.inr rfl)) (sss_cons (ss_for hp rfl (si_rng1 ok rfl T.z_range so_int) (sg_name (npi (by decide)) sc.nd rfl (Or.inl rfl) (Or.inr rfl)) (sss_cons (ss_set (npi (by decide)) sc.nd rfl (Or.inl rfl) (se_call ok (TP.FnOk.at (ok_elders T)) (hr.mono (by decide)) rfl T.m_elders T.f_elders.kp T.b_elders hx (.cons (so_var 2 rfl (Or.inr (Or.inl rfl))) rfl (.cons (so_var 5 rfl (Or.inr (Or.inl rfl))) rfl .nil))) rfl (Or.inr rfl)) (sss_cons (ss_set (npi (by decide)) sc.nd rfl (Or.inl rfl) (se_call ok (TP.FnOk.at (ok_wanted T)) (hr.mono (by decide)) rfl T.m_wanted T.f_wanted.kp T.b_wanted hx (.cons (so_var 2 rfl (Or.inr (Or.inl rfl))) rfl (.cons (so_var 7 rfl (Or.inl rfl)) rfl .nil))) rfl (Or.inr rfl)) (sss_cons (ss_if (st_w (sw_or (st_not (st_val (se_peek ok (TP.FnOk.at (ok__law_alike T 6)) (hr.mono (by decide)) rfl T.m__law_alike T.f__law_alike.kp T.b__law_alike hx (.cons (so_var 9 rfl (Or.inl rfl)) rfl (.cons (so_var 6 rfl (Or.inl rfl)) rfl .nil))))) (sw_or1 (st_not (st_val (se_peek ok (TP.FnOk.at (ok__law_alike T 6)) (hr.mono (by decide)) rfl T.m__law_alike T.f__law_alike.kp T.b__law_alike hx (.cons (so_var 10 rfl (Or.inl rfl)) rfl (.cons (so_e (se_fz (se_call ok (TP.FnOk.at (ok__law_wants T)) (hr.mono (by decide)) rfl T.m__law_wants T.f__law_wants.kp T.b__law_wants hx (.cons (so_var 7 rfl (Or.inl rfl)) rfl .nil)))) rfl .nil)))))))) (sss_one (ss_ret se_bl)) sss_nil) (sss_cons (ss_expr (se_mut ok PySem.F.plainAttrs_list PySem.F.slot_list_append PySem.F.type_list_append mt_append ty_list rfl n_append (sp_var 9 rfl (Or.inl rfl)) (.cons (so_e (se_tup ok (.cons so_int rfl (.cons so_int rfl (.cons so_int rfl .nil))))) rfl .nil))) (sss_one (ss_expr (se_mut0 ok PySem.F.plainAttrs_list PySem.F.slot_list_reverse PySem.F.type_list_reverse mt_reverse ty_list rfl n_reverse (sp_var 10 rfl (Or.inl rfl)))))))))) (sss_cons (ss_set (npi (by decide)) sc.nd rfl (Or.inl rfl) (se_call ok (TP.FnOk.at (ok__law_next T)) (hr.mono (by decide)) rfl T.m__law_next T.f__law_next.kp T.b__law_next hx (.cons (so_var 1 rfl (Or.inl rfl)) rfl (.cons (so_e (se_bin ok op_pow n_pow so_int so_int)) rfl .nil))) rfl (Or.inr rfl)) (sss_cons (ss_set (npi (by decide)) sc.nd rfl (Or.inl rfl) (se_call ok (TP.FnOk.at (ok__law_side T)) (hr.mono (by decide)) rfl T.m__law_side T.f__law_side.kp T.b__law_side hx (.cons (so_var 4 rfl (Or.inr (Or.inl rfl))) rfl .nil)) rfl (Or.inr rfl)) (sss_cons (ss_set (npi (by decide)) sc.nd rfl (Or.inr rfl) (se_lst ok (.cons (so_e (se_tup ok (.cons (so_e (se_bin ok op_addU n_add (so_var 2 rfl (Or.inr (Or.inl rfl))) (so_var 11 rfl (Or.inl rfl)))) rfl (.cons so_int rfl (.cons so_int rfl .nil))))) rfl (.cons (so_e (se_tup ok (.cons (so_e (se_bin ok op_sub n_sub (so_e (se_un ok un_neg n_neg so_int)) (so_var 11 rfl (Or.inl rfl)))) rfl (.cons so_int rfl (.cons so_int rfl .nil))))) rfl (.cons (so_e (se_tup ok (.cons (so_e (se_var 4 rfl (Or.inr (Or.inl rfl)))) rfl (.cons (so_e (se_bin ok op_addU n_add (so_var 12 rfl (Or.inl rfl)) (so_var 11 rfl (Or.inl rfl)))) rfl (.cons so_int rfl .nil))))) rfl (.cons (so_e (se_tup ok (.cons (so_e (se_var 4 rfl (Or.inr (Or.inl rfl)))) rfl (.cons so_int rfl (.cons (so_e (se_bin ok op_addU n_add (so_var 12 rfl (Or.inl rfl)) (so_var 11 rfl (Or.inl rfl)))) rfl .nil))))) rfl .nil))))) rfl (Or.inl rfl)) (sss_cons (ss_set (npi (by decide)) sc.nd rfl (Or.inr rfl) (se_ix ok ix_seq n_ix (so_e (se_fz (se_bin ok op_addU n_add (so_var 13 rfl (Or.inr (Or.inl rfl))) (so_e (se_lst ok (.cons (so_e (se_tup ok (.cons (so_e (se_var 4 rfl (Or.inr (Or.inl rfl)))) rfl (.cons (so_e (se_bin ok op_sub n_sub (so_e (se_un ok un_neg n_neg so_int)) (so_var 11 rfl (Or.inl rfl)))) rfl (.cons so_int rfl .nil))))) rfl (.cons (so_e (se_tup ok (.cons (so_e (se_var 4 rfl (Or.inr (Or.inl rfl)))) rfl (.cons so_int rfl (.cons (so_e (se_bin ok op_sub n_sub (so_e (se_un ok un_neg n_neg so_int)) (so_var 11 rfl (Or.inl rfl)))) rfl .nil))))) rfl .nil))))))) (so_e (se_call ok (TP.FnOk.at (ok__law_next T)) (hr.mono (by decide)) rfl T.m__law_next T.f__law_next.kp T.b__law_next hx (.cons (so_var 1 rfl (Or.inl rfl)) rfl (.cons so_int rfl .nil))))) rfl (Or.inl rfl)) (sss_cons (ss_if (st_cmp ok (op_neD hu4) n_ne (so_e (se_kindF (k := 3) ok rfl T.m__law_kind T.f__law_kind T.b__law_kind sc__law_kind rfl (Or.inl rfl) (fun q cdg => giv_kind T (hr.mono (by decide)) q cdg) tab rfl inT one (hr.mono (by decide)) (lamP_by (sc := defScope (topS 34)) (by decide +kernel)) rfl (fun _ _ _ _ _ => rfl) (fun A1 outer1 s1 H1 E1 f1 c1 pi1 pv1 hrl => se_call ok.lam (TP.FnOk.at (TP.FnOk.at (ok_elders T))) (hrl.mono (by decide)) rfl T.m_elders T.f_elders.kp T.b_elders lam_passes (.cons (so_var 2 rfl (Or.inr (Or.inr rfl))) rfl (.cons (so_var 13 rfl (Or.inr (Or.inr rfl))) rfl .nil))))) so_str rfl) (sss_one (ss_ret se_bl)) sss_nil) (sss_cons (ss_set (npi (by decide)) sc.nd rfl (Or.inr rfl) (se_call ok (TP.FnOk.at (ok__law_odd T)) (hr.mono (by decide)) rfl T.m__law_odd T.f__law_odd.kp T.b__law_odd hx (.cons (so_var 1 rfl (Or.inl rfl)) rfl (.cons (so_var 2 rfl (Or.inr (Or.inl rfl))) rfl .nil))) rfl (Or.inl rfl)) (sss_cons (ss_if (st_cmp ok (op_neD hu4) n_ne (so_e (se_kindF (k := 3) ok rfl T.m__law_kind T.f__law_kind T.b__law_kind sc__law_kind rfl (Or.inl rfl) (fun q cdg => giv_kind T (hr.mono (by decide)) q cdg) tab rfl inT one (hr.mono (by decide)) (lamP_by (sc := defScope (topS 34)) (by decide +kernel)) rfl (fun _ _ _ _ _ => rfl) (fun A1 outer1 s1 H1 E1 f1 c1 pi1 pv1 hrl => se_call ok.lam (TP.FnOk.at (TP.FnOk.at (ok_wanted T))) (hrl.mono (by decide)) rfl T.m_wanted T.f_wanted.kp T.b_wanted lam_passes (.cons (so_var 2 rfl (Or.inr (Or.inr rfl))) rfl (.cons (so_var 14 rfl (Or.inr (Or.inr rfl))) rfl .nil))))) (so_e (se_ix ok ix_seq n_ix (so_e (se_fz (se_lst ok (.cons so_str rfl (.cons so_str rfl .nil))))) (so_e (se_callTy ok call_intU n_int rfl T.z_int PyProof.Rows.boot_int (.cons (so_e (se_call ok (TP.FnOk.at (ok__law_is_view T)) (hr.mono (by decide)) rfl T.m__law_is_view T.f__law_is_view.kp T.b__law_is_view hx (.cons (so_var 2 rfl (Or.inr (Or.inl rfl))) rfl (.cons (so_var 14 rfl (Or.inr (Or.inl rfl))) rfl .nil)))) rfl .nil))))) rfl) (sss_one (ss_ret se_bl)) sss_nil) (sss_cons (ss_set (npi (by decide)) sc.nd rfl (Or.inr rfl) (se_ix ok ix_seq n_ix (so_e (se_fz (se_lst ok (.cons so_int rfl (.cons so_int rfl (.cons (so_e (se_bin ok op_addU n_add so_int (so_var 11 rfl (Or.inl rfl)))) rfl (.cons (so_e (se_bin ok op_sub n_sub (so_e (se_un ok un_neg n_neg so_int)) (so_var 11 rfl (Or.inl rfl)))) rfl .nil))))))) (so_e (se_call ok (TP.FnOk.at (ok__law_next T)) (hr.mono (by decide)) rfl T.m__law_next T.f__law_next.kp T.b__law_next hx (.cons (so_var 1 rfl (Or.inl rfl)) rfl (.cons so_int rfl .nil))))) rfl (Or.inl rfl)) (sss_one (ss_if (st_cmp ok (op_neD hu4) n_ne (so_e (se_lst ok (.cons (so_e (se_kindF (k := 3) ok rfl T.m__law_kind T.f__law_kind T.b__law_kind sc__law_kind rfl (Or.inl rfl) (fun q cdg => giv_kind T (hr.mono (by decide)) q cdg) tab rfl inT one (hr.mono (by decide)) (lamP_by (sc := defScope (topS 34)) (by decide +kernel)) rfl (fun _ _ _ _ _ => rfl) (fun A1 outer1 s1 H1 E1 f1 c1 pi1 pv1 hrl => se_call ok.lam (TP.FnOk.at (TP.FnOk.at (ok_elders T))) (hrl.mono (by decide)) rfl T.m_elders T.f_elders.kp T.b_elders lam_passes (.cons (so_var 15 rfl (Or.inr (Or.inr rfl))) rfl (.cons (so_var 13 rfl (Or.inr (Or.inr rfl))) rfl .nil))))) rfl (.cons (so_e (se_kindFD (k := 3) ok rfl T.m__law_kind T.f__law_kind T.b__law_kind sc__law_kind rfl (Or.inl rfl) (fun q cdg => giv_kind T (hr.mono (by decide)) q cdg) tab rfl inT one (hr.mono (by decide)) (lamP_by (sc := defScope (topS 34)) (own := ["_law_a"]) (by decide +kernel)) (fun j z => absurd (List.mem_of_getElem? z) (show ("_law_a" : Str) ∉ (["_law_script", "_law_h", "_law_levels", "_law_turn", "_law_level", "_law_square", "_law_due", "_law_view_here", "_law_again", "_law_found", "_law_told", "_law_far", "_law_side_here", "_law_odd_here", "_law_other", "_law_bad", "_law_k"] : List Str) by decide +kernel)) rfl rfl (fun _ _ _ _ _ _ _ _ => ⟨_, rfl, rfl⟩) (fun A1 outer1 s1 H1 E1 f1 c1 pi1 pv1 hrl => se_call ok.lam (TP.FnOk.at (TP.FnOk.at (ok_wanted T))) (hrl.mono (by decide)) rfl T.m_wanted T.f_wanted.kp T.b_wanted lam_passes (.cons (so_var 15 rfl (Or.inr (Or.inr rfl))) rfl (.cons (so_var 14 rfl (Or.inr (Or.inr rfl))) rfl .nil))))) rfl .nil)))) (so_e (se_rep (se_lst ok (.cons so_str rfl .nil)) se_int)) rfl) (sss_one (ss_ret se_bl)) sss_nil)))))))))))))))) (sss_one (ss_ret se_bl))))
end
end TL
end
set_option linter.all false
set_option maxRecDepth 100000
set_option maxHeartbeats 4000000
namespace TL
open PySem PySem.Spec PyProof.Rows L2 TP
variable [TabsOf]
/-! ### the source of the law's choices -/
structure Hs where
  a : Int
  xs : List Int
  b : Int
abbrev rH (h : Hs) : R := .on [.d (.int h.a), .ol (h.xs.map .int), .d (.int h.b)]
structure Hok (h : Hs) : Prop where
  len : h.xs.length ≤ 63
  b : 0 ≤ h.b
abbrev dI (i : Int) : R := .d (.int i)
theorem seq_nx {s t : SF} {ρ ρ1 : List R} (h : s ρ = .ok .nx ρ1) : cSeq s t ρ = t ρ1 := by unfold cSeq; rw [h]; rfl
theorem seq_rt {s t : SF} {ρ ρ1 : List R} {r : R} (h : s ρ = .ok (.rt r) ρ1) : cSeq s t ρ = .ok (.rt r) ρ1 := by unfold cSeq; rw [h]; rfl
theorem run_rt {p : SF} {n np : Nat} {rs ρ : List R} {r : R} (hl : rs.length = np) (h : p (rs ++ List.replicate (n - np) .junk) = .ok (.rt r) ρ) : runG p n np rs = .ok r (ρ.take np) := by
  unfold runG
  rw [if_pos hl, h]
theorem run_nx {p : SF} {n np : Nat} {rs ρ : List R} (hl : rs.length = np) (h : p (rs ++ List.replicate (n - np) .junk) = .ok .nx ρ) : runG p n np rs = .ok (.d .none) (ρ.take np) := by
  unfold runG
  rw [if_pos hl, h]
theorem canLay_ints : ∀ xs : List Int, PyData.canLayAll0 (xs.map .int) = true
  | [] => by simp [PyData.canLayAll0]
  | x :: xs => by simp [PyData.canLayAll0, PyData.canLay0, canLay_ints xs]
theorem shaped_ints (xs : List Int) : SeqAt.shaped (.list (xs.map .int)) = true := by
  unfold SeqAt.shaped
  have h := PySem.W.depth_ints xs
  simp [PyData.canLay0, canLay_ints, PyData.depth, h]
theorem call_hc {g : GF} {i : Nat} {x : PyData} {ρ : List R} {r r' q : R} (hr : ρ[i]? = some r) (nd : ∀ y, r ≠ .d y) (nj : isJ r = false) (e : g [r, .d x] = .ok q [r', .d x]) : cCall g [.s i, .c x] ρ = .ok q (ρ.set i r') := by
  have t : takeHs ρ [.s i, .t (.d x)] = some ([r, .d x], ρ.set i .junk) := by
    cases r with
    | d y => exact absurd rfl (nd y)
    | _ => simp_all [takeHs]
  simp [cCall, cOps, hr, nj, Rs.bind, t, e, putHs]
theorem call_he {g : GF} {i : Nat} {x : PyData} {ρ ρ1 : List R} {r0 r r' q : R} {f : EF} (h0 : ρ[i]? = some r0) (j0 : isJ r0 = false) (hf : f ρ = .ok (.d x) ρ1) (hr : ρ1[i]? = some r) (nd : ∀ y, r ≠ .d y) (nj : isJ r = false) (e : g [r, .d x] = .ok q [r', .d x]) : cCall g [.s i, .e f] ρ = .ok q (ρ1.set i r') := by
  have t : takeHs ρ1 [.s i, .t (.d x)] = some ([r, .d x], ρ1.set i .junk) := by
    cases r with
    | d y => exact absurd rfl (nd y)
    | _ => simp_all [takeHs]
  simp [cCall, cOps, h0, j0, Rs.bind, hf, t, e, putHs]
theorem emod_lt' (a : Int) {m : Int} (h : 0 < m) : 0 ≤ a % m ∧ a % m < m := ⟨Int.emod_nonneg _ (by omega), Int.emod_lt_of_pos _ h⟩
theorem next_ok (h : Hs) (m : Int) (hm : 0 < m ∧ m < 1073741824) (ok : Hok h) : ∃ r h', g__law_next [rH h, dI m] = .ok (dI r) [rH h', dI m] ∧ 0 ≤ r ∧ r < m ∧ Hok h' := by
  obtain ⟨a, xs, b⟩ := h
  obtain ⟨hl, hb⟩ := ok
  simp only at hl hb
  have hmx : 0 < mx 1 (xs.length : Int) := by have := mx_ge 1 (xs.length : Int); omega
  have e1 : cSet 2 (cN modK [.e (cGet 0 [(.ix, 2)]), .e (cN maxK [.c (.int 1), .e (cN lenK [.p 0 [(.ix, 1)]])])]) [rH ⟨a, xs, b⟩, dI m, .junk, .junk] = .ok .nx [rH ⟨a, xs, b⟩, dI m, dI (b % mx 1 (xs.length : Int)), .junk] := by
    simp [cSet, cN, cOps, cGet, getP, kids, Rs.bind, Op.quiet, hviews, hview, vw, lenK, maxK, modK, isJ, hmx]
  obtain ⟨cell, e2, hcell⟩ : ∃ cell, cSet 3 (cIf (cTb (cNil true 0 [(.ix, 1)])) (cN ixK [.p 0 [(.ix, 1)], .s 2]) (cC (.int 0))) [rH ⟨a, xs, b⟩, dI m, dI (b % mx 1 (xs.length : Int)), .junk] = .ok .nx [rH ⟨a, xs, b⟩, dI m, dI (b % mx 1 (xs.length : Int)), dI cell] ∧ (xs = [] → cell = 0) := by
    cases xs with
    | nil =>
      refine ⟨0, ?_, fun _ => rfl⟩
      have := shaped_ints []
      simp at this
      simp [cSet, cIf, cTb, cNil, cN, cOps, cC, getP, kids, vw, Rs.bind, asB, this]
    | cons x xs =>
      have hs := shaped_ints (x :: xs)
      simp only [List.map_cons] at hs
      have h1 : mx 1 (((x :: xs).length : Nat) : Int) = ((x :: xs).length : Nat) := by unfold mx; split <;> simp_all <;> omega
      have h2 := emod_lt' b (m := (((x :: xs).length : Nat) : Int)) (by simp only [List.length_cons]; omega)
      obtain ⟨j, hj⟩ : ∃ j : Nat, b % (((x :: xs).length : Nat) : Int) = (j : Int) := ⟨_, (Int.toNat_of_nonneg h2.1).symm⟩
      have hjl : j < (x :: xs).length := by omega
      refine ⟨(x :: xs)[j], ?_, fun z => by cases z⟩
      rw [h1, hj]
      have ha : atI (List.map PyData.int (x :: xs)) (j : Int) = some (.int (x :: xs)[j]) := atI_nat (by rw [List.getElem?_map, List.getElem?_eq_getElem hjl]; rfl)
      simp only [List.map_cons] at ha
      simp [cSet, cIf, cTb, cNil, cN, cOps, cC, getP, kids, vw, Rs.bind, asB, hs, Op.quiet, isJ, hviews, hview, ixK, ha]
  have hp : powK [.int 10, .int 18] = some (.d (.int 1000000000000000000)) := by
    unfold powK
    simp
  by_cases hc : 1000000000000000000 ≤ cell
  · have hne : xs ≠ [] := fun z => by have := hcell z; omega
    have hxl : 0 < xs.length := List.length_pos_iff.mpr hne
    have h1 : mx 1 (xs.length : Int) = xs.length := by unfold mx; split <;> omega
    have h2 := emod_lt' b (m := (xs.length : Int)) (by omega)
    obtain ⟨j, hj⟩ : ∃ j : Nat, b % (xs.length : Int) = (j : Int) := ⟨_, (Int.toNat_of_nonneg h2.1).symm⟩
    have hjl : j < xs.length := by omega
    have hix : ixN xs.length (j : Int) = some j := by unfold ixN; simp [hjl]
    rw [h1, hj] at e1 e2
    refine ⟨cell % m, ⟨a, xs.set j (cell / m), b⟩, ?_, (emod_lt' cell hm.1).1, (emod_lt' cell hm.1).2, ⟨by simpa using hl, hb⟩⟩
    refine (run_rt (ρ := [rH ⟨a, xs.set j (cell / m), b⟩, dI m, dI j, dI cell]) rfl ?_).trans rfl
    show p__law_next [rH ⟨a, xs, b⟩, dI m, .junk, .junk] = _
    unfold p__law_next
    rw [seq_nx e1, seq_nx e2]
    simp [cSeq, cIte, cTb, cN, cOps, Rs.bind, isJ, hviews, hview, vw, hp, cmpK, asB, hc, cStore, fdivK, hm, getP, kids, quietView, stL, hix, toD, setP, reKid, cRet, modK, List.map_set]
  · refine ⟨((a * 48271 + cell * 69621 + 11) % 2147483647) / 7 % m, ⟨(a * 48271 + cell * 69621 + 11) % 2147483647, xs, b + 1⟩, ?_, (emod_lt' _ hm.1).1, (emod_lt' _ hm.1).2, ⟨hl, by show 0 ≤ b + 1; omega⟩⟩
    refine (run_rt (ρ := [rH ⟨(a * 48271 + cell * 69621 + 11) % 2147483647, xs, b + 1⟩, dI m, dI (b % mx 1 (xs.length : Int)), dI cell]) rfl ?_).trans rfl
    show p__law_next [rH ⟨a, xs, b⟩, dI m, .junk, .junk] = _
    unfold p__law_next
    rw [seq_nx e1, seq_nx e2]
    simp [cSeq, cIte, cTb, cN, cOps, Rs.bind, isJ, hviews, hview, vw, hp, cmpK, asB, hc, cNx, cStore, fdivK, hm, getP, kids, quietView, stL, ixN, toD, setP, reKid, cRet, modK, mulK, addK, small, Op.quiet]
end TL
set_option linter.all false
set_option maxRecDepth 100000
set_option maxHeartbeats 4000000
namespace TL
open PySem PySem.Spec PyProof.Rows L2 TP
variable [TabsOf]
theorem call_hs {g : GF} {i j : Nat} {x : PyData} {ρ : List R} {r r' q : R} (hij : i ≠ j) (hr : ρ[i]? = some r) (nd : ∀ y, r ≠ .d y) (nj : isJ r = false) (hj : ρ[j]? = some (.d x)) (e : g [r, .d x] = .ok q [r', .d x]) : cCall g [.s i, .s j] ρ = .ok q (ρ.set i r') := by
  have hj' : (ρ.set i .junk)[j]? = some (.d x) := by rw [List.getElem?_set_ne hij]; exact hj
  have t : takeHs ρ [.s i, .s j] = some ([r, .d x], ρ.set i .junk) := by
    cases r with
    | d y => exact absurd rfl (nd y)
    | _ => simp_all [takeHs]
  have w : (ρ.set i r').set j (.d x) = ρ.set i r' := set_self (by rw [List.getElem?_set_ne hij]; exact hj)
  have jj : isJ (R.d x) = false := (rfl)
  simp [cCall, cOps, hr, nj, hj, jj, Rs.bind, t, e, putHs, w]
theorem on_nd {rs : List R} : ∀ y, R.on rs ≠ .d y := fun _ z => nomatch z
/-- a new choice below a number in a slot, a written one, a reckoned one: at slot 0 -/
theorem nx_s (h : Hs) (ok : Hok h) (j : Nat) (m : Int) (hm : 0 < m ∧ m < 1073741824) (ρ : List R) (hj : ρ[j]? = some (dI m)) : ∃ r h', cCall g__law_next [.s 0, .s (j + 1)] (rH h :: ρ) = .ok (dI r) (rH h' :: ρ) ∧ 0 ≤ r ∧ r < m ∧ Hok h' := by
  obtain ⟨r, h', e, a, b, c⟩ := next_ok h m hm ok
  exact ⟨r, h', call_hs (by omega) rfl on_nd rfl (by simpa using hj) e, a, b, c⟩
theorem nx_c (h : Hs) (ok : Hok h) (m : Int) (hm : 0 < m ∧ m < 1073741824) (ρ : List R) : ∃ r h', cCall g__law_next [.s 0, .c (.int m)] (rH h :: ρ) = .ok (dI r) (rH h' :: ρ) ∧ 0 ≤ r ∧ r < m ∧ Hok h' := by
  obtain ⟨r, h', e, a, b, c⟩ := next_ok h m hm ok
  exact ⟨r, h', call_hc rfl on_nd rfl e, a, b, c⟩
theorem nx_e (h h0 : Hs) (ok : Hok h) (m : Int) (hm : 0 < m ∧ m < 1073741824) (ρ ρ0 : List R) (f : EF) (hf : f (rH h0 :: ρ0) = .ok (dI m) (rH h :: ρ)) : ∃ r h', cCall g__law_next [.s 0, .e f] (rH h0 :: ρ0) = .ok (dI r) (rH h' :: ρ) ∧ 0 ≤ r ∧ r < m ∧ Hok h' := by
  obtain ⟨r, h', e, a, b, c⟩ := next_ok h m hm ok
  exact ⟨r, h', call_he rfl rfl hf rfl on_nd rfl e, a, b, c⟩
/-! ### two operands -/
section
variable {k : List PyData → Option R} {f g : EF} {x y : PyData} {ρ ρ1 ρ2 : List R} {r : R} {i : Nat}
theorem jD (x : PyData) : isJ (R.d x) = false := (rfl)
theorem cN_se (h0 : ρ[i]? = some (.d x)) (hf : f ρ = .ok (.d y) ρ1) (h1 : ρ1[i]? = some (.d x)) (hk : k [x, y] = some r) : cN k [.s i, .e f] ρ = .ok r ρ1 := by
  simp [cN, cOps, h0, jD, Rs.bind, hf, hviews, hview, h1, vw, hk]
theorem cN_ee (hf : f ρ = .ok (.d x) ρ1) (hg : g ρ1 = .ok (.d y) ρ2) (hk : k [x, y] = some r) : cN k [.e f, .e g] ρ = .ok r ρ2 := by
  simp [cN, cOps, Rs.bind, hf, hg, hviews, hview, vw, hk]
theorem cN_ec (hf : f ρ = .ok (.d x) ρ1) (hk : k [x, y] = some r) : cN k [.e f, .c y] ρ = .ok r ρ1 := by
  simp [cN, cOps, Rs.bind, hf, hviews, hview, vw, hk]
theorem cN_ce (hf : f ρ = .ok (.d y) ρ1) (hk : k [x, y] = some r) : cN k [.c x, .e f] ρ = .ok r ρ1 := by
  simp [cN, cOps, Rs.bind, hf, hviews, hview, vw, hk]
theorem cN_es (hf : f ρ = .ok (.d x) ρ1) (h1 : ρ1[i]? = some (.d y)) (hk : k [x, y] = some r) : cN k [.e f, .s i] ρ = .ok r ρ1 := by
  simp [cN, cOps, Rs.bind, hf, h1, jD, hviews, hview, vw, hk]
theorem cSet_ok (hf : f ρ = .ok r ρ1) : cSet i f ρ = .ok .nx (ρ1.set i r) := by
  simp [cSet, hf, Rs.bind]
end
theorem mulK_l {a b : Int} (h : small a = true) : mulK [.int a, .int b] = some (dI (a * b)) := by unfold mulK; simp [h]
theorem mulK_r {a b : Int} (h : small b = true) : mulK [.int a, .int b] = some (dI (a * b)) := by unfold mulK; simp [h]
theorem fdivK_ok {a b : Int} (h : 0 < b ∧ b < 1073741824) : fdivK [.int a, .int b] = some (dI (a / b)) := if_pos h
theorem modK_ok {a b : Int} (h : 0 < b) : modK [.int a, .int b] = some (dI (a % b)) := if_pos h
theorem rbind {α β : Type} {o : Rs α} {a : α} {ρ : List R} {f : α → List R → Rs β} (h : o = .ok a ρ) : o.bind f = f a ρ := by rw [h]; rfl
/-! ### _law_side -/
def sideI (l : Int) : Int := 2 ^ l.toNat
theorem lvl_cases {l : Int} (h : 0 ≤ l ∧ l < 6) : l = 0 ∨ l = 1 ∨ l = 2 ∨ l = 3 ∨ l = 4 ∨ l = 5 := by omega
theorem side_ok (l : Int) (h : 0 ≤ l ∧ l < 6) : g__law_side [dI l] = .ok (dI (sideI l)) [dI l] := by
  rcases lvl_cases h with rfl | rfl | rfl | rfl | rfl | rfl <;> rfl
theorem side_s {ρ : List R} {j : Nat} {l : Int} (h : 0 ≤ l ∧ l < 6) (hj : ρ[j]? = some (dI l)) : cCall g__law_side [.s j] ρ = .ok (dI (sideI l)) ρ := by
  have w : ρ.set j (dI l) = ρ := set_self hj
  simp [cCall, cOps, hj, isJ, Rs.bind, takeHs, side_ok l h, putHs, w]
theorem side_pos {l : Int} (h : 0 ≤ l ∧ l < 6) : 1 ≤ sideI l ∧ sideI l ≤ 32 := by
  rcases lvl_cases h with rfl | rfl | rfl | rfl | rfl | rfl <;> decide
/-! ### views -/
structure VV where
  l : Int
  x : Int
  y : Int
  w : Int
  h : Int
def VV.row (v : VV) : List Int := [v.l, v.x, v.y, v.w, v.h]
abbrev VV.d (v : VV) : PyData := .tuple [.int v.l, .int v.x, .int v.y, .int v.w, .int v.h]
structure VOk (L : Int) (v : VV) : Prop where
  l0 : 0 ≤ v.l
  l1 : v.l < L
  x0 : 0 ≤ v.x
  y0 : 0 ≤ v.y
  w0 : 1 ≤ v.w
  h0 : 1 ≤ v.h
  wh : v.w * v.h ≤ 16
  xw : v.x + v.w ≤ sideI v.l
  yh : v.y + v.h ≤ sideI v.l
theorem view_ok (h : Hs) (ok : Hok h) (L : Int) (hL : 1 ≤ L ∧ L ≤ 6) : ∃ v h', g__law_view [rH h, dI L] = .ok (.d (VV.d v)) [rH h', dI L] ∧ VOk L v ∧ Hok h' := by
  obtain ⟨r1, h1, c1, a1, b1, k1⟩ := nx_s h ok 0 L (by omega) [dI L, .junk, .junk, .junk, .junk] rfl
  obtain ⟨r2, h2, c2, a2, b2, k2⟩ := nx_c h1 k1 2 (by omega) [dI L, .junk, .junk, .junk, .junk]
  have s1 : ∃ l, (0 ≤ l ∧ l < L) ∧ cSet 2 (cN ixK [.e (cFz (cLst [.e (cN subK [.s 1, .c (.int 1)]), .e (cCall g__law_next [.s 0, .s 1])])), .e (cCall g__law_next [.s 0, .c (.int 2)])]) [rH h, dI L, .junk, .junk, .junk, .junk] = .ok .nx [rH h2, dI L, dI l, .junk, .junk, .junk] := by
    have hr : r2 = 0 ∨ r2 = 1 := by omega
    rcases hr with rfl | rfl
    · refine ⟨L - 1, by omega, ?_⟩
      simp [cSet, cN, cOps, cFz, cLst, Rs.bind, isJ, hviews, hview, vw, subK, c1, c2, hdRs, mkL, allD, toD, ixK, atI, ixN]
    · refine ⟨r1, by omega, ?_⟩
      simp [cSet, cN, cOps, cFz, cLst, Rs.bind, isJ, hviews, hview, vw, subK, c1, c2, hdRs, mkL, allD, toD, ixK, atI, ixN]
  obtain ⟨l, hl, s1⟩ := s1
  have hl6 : 0 ≤ l ∧ l < 6 := by omega
  have sp := side_pos hl6
  have s2 : cSet 3 (cCall g__law_side [.s 2]) [rH h2, dI L, dI l, .junk, .junk, .junk] = .ok .nx [rH h2, dI L, dI l, dI (sideI l), .junk, .junk] := by
    simp [cSet, side_s hl6 (ρ := [rH h2, dI L, dI l, .junk, .junk, .junk]) (j := 2) rfl, Rs.bind]
  obtain ⟨r3, h3, c3, a3, b3, k3⟩ := nx_c h2 k2 6 (by omega) [dI L, dI l, dI (sideI l), .junk, .junk]
  have q3 : ∃ z, (z = 4 ∨ z = 16) ∧ cN ixK [.e (cFz (cLst [.c (.int 4), .c (.int 16)])), .e (cN fdivK [.e (cCall g__law_next [.s 0, .c (.int 6)]), .c (.int 5)])] [rH h2, dI L, dI l, dI (sideI l), .junk, .junk] = .ok (dI z) [rH h3, dI L, dI l, dI (sideI l), .junk, .junk] := by
    have hr : r3 / 5 = 0 ∨ r3 / 5 = 1 := by omega
    rcases hr with hr | hr
    · refine ⟨4, .inl rfl, ?_⟩
      simp [cN, cOps, cFz, cLst, Rs.bind, isJ, hviews, hview, vw, c3, hdRs, mkL, allD, toD, fdivK, ixK, hr, atI, ixN]
    · refine ⟨16, .inr rfl, ?_⟩
      simp [cN, cOps, cFz, cLst, Rs.bind, isJ, hviews, hview, vw, c3, hdRs, mkL, allD, toD, fdivK, ixK, hr, atI, ixN]
  obtain ⟨z, hz, q3⟩ := q3
  have m3 := mn_le (sideI l) z
  obtain ⟨r4, h4, c4, a4, b4, k4⟩ := nx_e h3 h2 k3 (mn (sideI l) z) (by omega) [dI L, dI l, dI (sideI l), .junk, .junk] [dI L, dI l, dI (sideI l), .junk, .junk] _ (cN_se (k := minK) (i := 3) (x := .int (sideI l)) rfl q3 rfl rfl)
  have s4 : cSet 4 _ _ = Rs.ok Fl.nx [rH h4, dI L, dI l, dI (sideI l), dI (1 + r4), .junk] := cSet_ok (i := 4) (cN_ce (k := addK) (x := .int 1) c4 (show _ = some (dI (1 + r4)) from rfl))
  have hw : 1 ≤ 1 + r4 ∧ 1 + r4 ≤ sideI l ∧ 1 + r4 ≤ 16 := by omega
  -- the height
  have q5 : cN minK [.s 3, .e (cN fdivK [.c (.int 16), .s 4]), .e (cN addK [.c (.int 4), .e (cN mulK [.c (.int 12), .e (cN intK [.e (cN eqK [.s 4, .c (.int 1)])])])])] [rH h4, dI L, dI l, dI (sideI l), dI (1 + r4), .junk] = .ok (dI (mn (mn (sideI l) (16 / (1 + r4))) (4 + 12 * bI (PyData.eqv (.int (1 + r4)) (.int 1))))) [rH h4, dI L, dI l, dI (sideI l), dI (1 + r4), .junk] := by
    have e1 : fdivK [.int 16, .int (1 + r4)] = some (dI (16 / (1 + r4))) := by
      exact if_pos (by omega)
    have e2 : eqK [.int (1 + r4), .int 1] = some (.d (.bool (PyData.eqv (.int (1 + r4)) (.int 1)))) := by
      unfold eqK; rfl
    have e3 : mulK [.int 12, .int (bI (PyData.eqv (.int (1 + r4)) (.int 1)))] = some (dI (12 * bI (PyData.eqv (.int (1 + r4)) (.int 1)))) := by
      exact mulK_l (by decide)
    simp [cN, cOps, jD, Rs.bind, hviews, hview, vw, e1, e2, e3, intK, addK, minK]
  have hb5 : 0 ≤ bI (PyData.eqv (.int (1 + r4)) (.int 1)) := by unfold bI; split <;> omega
  have d5 : 1 ≤ 16 / (1 + r4) := by
    rw [Int.le_ediv_iff_mul_le (by omega)]; omega
  have m5 := mn_le (sideI l) (16 / (1 + r4))
  have m6 := mn_le (mn (sideI l) (16 / (1 + r4))) (4 + 12 * bI (PyData.eqv (.int (1 + r4)) (.int 1)))
  obtain ⟨r5, h5, c5, a5, b5, k5⟩ := nx_e h4 h4 k4 _ ⟨by omega, by omega⟩ [dI L, dI l, dI (sideI l), dI (1 + r4), .junk] [dI L, dI l, dI (sideI l), dI (1 + r4), .junk] _ q5
  have s5 : cSet 5 _ _ = Rs.ok Fl.nx [rH h5, dI L, dI l, dI (sideI l), dI (1 + r4), dI (1 + r5)] := cSet_ok (i := 5) (cN_ce (k := addK) (x := .int 1) c5 (show _ = some (dI (1 + r5)) from rfl))
  have hh : 1 ≤ 1 + r5 ∧ 1 + r5 ≤ sideI l ∧ 1 + r5 ≤ 16 / (1 + r4) := by omega
  have hwh : (1 + r4) * (1 + r5) ≤ 16 := by
    have e := (Int.le_ediv_iff_mul_le (c := 1 + r4) (by omega)).mp hh.2.2
    rw [Int.mul_comm]; exact e
  have q6 : cN addK [.e (cN subK [.s 3, .s 4]), .c (.int 1)] [rH h5, dI L, dI l, dI (sideI l), dI (1 + r4), dI (1 + r5)] = .ok (dI (sideI l - (1 + r4) + 1)) [rH h5, dI L, dI l, dI (sideI l), dI (1 + r4), dI (1 + r5)] := by
    simp [cN, cOps, jD, Rs.bind, hviews, hview, vw, subK, addK]
  obtain ⟨r6, h6, c6, a6, b6, k6⟩ := nx_e h5 h5 k5 _ ⟨by omega, by omega⟩ [dI L, dI l, dI (sideI l), dI (1 + r4), dI (1 + r5)] [dI L, dI l, dI (sideI l), dI (1 + r4), dI (1 + r5)] _ q6
  have q7 : cN addK [.e (cN subK [.s 3, .s 5]), .c (.int 1)] [rH h6, dI L, dI l, dI (sideI l), dI (1 + r4), dI (1 + r5)] = .ok (dI (sideI l - (1 + r5) + 1)) [rH h6, dI L, dI l, dI (sideI l), dI (1 + r4), dI (1 + r5)] := by
    simp [cN, cOps, jD, Rs.bind, hviews, hview, vw, subK, addK]
  obtain ⟨r7, h7, c7, a7, b7, k7⟩ := nx_e h6 h6 k6 _ ⟨by omega, by omega⟩ [dI L, dI l, dI (sideI l), dI (1 + r4), dI (1 + r5)] [dI L, dI l, dI (sideI l), dI (1 + r4), dI (1 + r5)] _ q7
  refine ⟨⟨l, r6, r7, 1 + r4, 1 + r5⟩, h7, ?_, ⟨hl.1, hl.2, a6, a7, hw.1, hh.1, hwh, by show r6 + (1 + r4) ≤ sideI l; omega, by show r7 + (1 + r5) ≤ sideI l; omega⟩, k7⟩
  refine (run_rt (ρ := [rH h7, dI L, dI l, dI (sideI l), dI (1 + r4), dI (1 + r5)]) rfl ?_).trans rfl
  show p__law_view [rH h, dI L, .junk, .junk, .junk, .junk] = _
  unfold p__law_view
  rw [seq_nx s1, seq_nx s2, seq_nx s4, seq_nx s5]
  simp [cRet, cTup, cOps, cVar, toD, Rs.bind, c6, c7, hdRs, mkT, allD]
end TL
set_option linter.all false
set_option maxRecDepth 100000
set_option maxHeartbeats 4000000
namespace TL
open PySem PySem.Spec PyProof.Rows L2 TP
variable [TabsOf]
theorem eqK_int (a b : Int) : eqK [.int a, .int b] = some (.d (.bool (a == b))) := by
  have e : eqK [.int a, .int b] = some (.d (.bool (PyData.eqv (.int a) (.int b)))) := (rfl)
  rw [e]; simp [PyData.eqv]
theorem ite_t {t : TF} {s u : SF} {ρ ρ1 : List R} (h : t ρ = .ok true ρ1) : cIte t s u ρ = s ρ1 := by unfold cIte; rw [h]; rfl
theorem ite_f {t : TF} {s u : SF} {ρ ρ1 : List R} (h : t ρ = .ok false ρ1) : cIte t s u ρ = u ρ1 := by unfold cIte; rw [h]; rfl
theorem ite_nx {t : TF} {s : SF} {ρ ρ1 : List R} (h : t ρ = .ok false ρ1) : cIte t s cNx ρ = .ok .nx ρ1 := ite_f h
theorem side_half {l : Int} (h : 0 < l ∧ l < 6) : sideI l = 2 * sideI (l - 1) := by
  have : l = 1 ∨ l = 2 ∨ l = 3 ∨ l = 4 ∨ l = 5 := by omega
  rcases this with rfl | rfl | rfl | rfl | rfl <;> decide
theorem call_hss {g : GF} {i j k : Nat} {x y : PyData} {ρ : List R} {r r' q : R} (hij : i ≠ j) (hik : i ≠ k) (hr : ρ[i]? = some r) (nd : ∀ y, r ≠ .d y) (nj : isJ r = false) (hj : ρ[j]? = some (.d x)) (hk : ρ[k]? = some (.d y)) (e : g [r, .d x, .d y] = .ok q [r', .d x, .d y]) : cCall g [.s i, .s j, .s k] ρ = .ok q (ρ.set i r') := by
  have hj' : (ρ.set i .junk)[j]? = some (.d x) := by rw [List.getElem?_set_ne hij]; exact hj
  have hk' : (ρ.set i .junk)[k]? = some (.d y) := by rw [List.getElem?_set_ne hik]; exact hk
  have t : takeHs ρ [.s i, .s j, .s k] = some ([r, .d x, .d y], ρ.set i .junk) := by
    cases r with
    | d y => exact absurd rfl (nd y)
    | _ => simp_all [takeHs]
  have w : (ρ.set i r').set j (.d x) = ρ.set i r' := set_self (by rw [List.getElem?_set_ne hij]; exact hj)
  have w2 : (ρ.set i r').set k (.d y) = ρ.set i r' := set_self (by rw [List.getElem?_set_ne hik]; exact hk)
  simp [cCall, cOps, hr, nj, hj, hk, jD, Rs.bind, t, e, putHs, w, w2]
theorem near_ok (h : Hs) (ok : Hok h) (L : Int) (hL : 1 ≤ L ∧ L ≤ 6) (v : VV) (hv : VOk L v) : ∃ v' h', g__law_near [rH h, dI L, .d v.d] = .ok (.d (VV.d v')) [rH h', dI L, .d v.d] ∧ VOk L v' ∧ Hok h' := by
  obtain ⟨l, x, y, wd, ht⟩ := v
  have hl6 : 0 ≤ l ∧ l < 6 := ⟨hv.l0, by have := hv.l1; simp only at this; omega⟩
  have sp := side_pos hl6
  have s1 : cAsg (cVar 2) (gT [gN 3, gN 4, gN 5, gN 6, gN 7]) [rH h, dI L, .d (VV.d ⟨l, x, y, wd, ht⟩), .junk, .junk, .junk, .junk, .junk, .junk] = .ok .nx [rH h, dI L, .d (VV.d ⟨l, x, y, wd, ht⟩), dI l, dI x, dI y, dI wd, dI ht, .junk] := by
    simp [cAsg, cVar, toD, Rs.bind, gT, parts, gAll, gN]
  obtain ⟨r, h1, c1, a1, b1, k1⟩ := nx_c h ok 6 (by omega) [dI L, .d (VV.d ⟨l, x, y, wd, ht⟩), dI l, dI x, dI y, dI wd, dI ht, .junk]
  have s2 : cSet 8 _ _ = Rs.ok Fl.nx [rH h1, dI L, .d (VV.d ⟨l, x, y, wd, ht⟩), dI l, dI x, dI y, dI wd, dI ht, dI r] := cSet_ok (i := 8) c1
  have t5 : cTb (cN eqK [.s 8, .c (.int 5)]) [rH h1, dI L, .d (VV.d ⟨l, x, y, wd, ht⟩), dI l, dI x, dI y, dI wd, dI ht, dI r] = .ok (r == 5) [rH h1, dI L, .d (VV.d ⟨l, x, y, wd, ht⟩), dI l, dI x, dI y, dI wd, dI ht, dI r] := by
    simp [cTb, cN, cOps, jD, Rs.bind, hviews, hview, vw, eqK_int, asB]
  have t3 : cTb (cN ltK [.s 8, .c (.int 3)]) [rH h1, dI L, .d (VV.d ⟨l, x, y, wd, ht⟩), dI l, dI x, dI y, dI wd, dI ht, dI r] = .ok (decide (r < 3)) [rH h1, dI L, .d (VV.d ⟨l, x, y, wd, ht⟩), dI l, dI x, dI y, dI wd, dI ht, dI r] := by
    simp [cTb, cN, cOps, jD, Rs.bind, hviews, hview, vw, cmpK, asB]
  have hvx := hv.x0; have hvy := hv.y0; have hvw := hv.w0; have hvh := hv.h0; have hwh := hv.wh; have hxw := hv.xw; have hyh := hv.yh; have hl1 := hv.l1
  simp only at hvx hvy hvw hvh hwh hxw hyh hl1
  by_cases h5 : r = 5
  · subst h5
    obtain ⟨v', h2, e2, ok2, k2⟩ := view_ok h1 k1 L hL
    refine ⟨v', h2, ?_, ok2, k2⟩
    refine (run_rt (ρ := [rH h2, dI L, .d (VV.d ⟨l, x, y, wd, ht⟩), dI l, dI x, dI y, dI wd, dI ht, dI 5]) rfl ?_).trans rfl
    show p__law_near [rH h, dI L, _, .junk, .junk, .junk, .junk, .junk, .junk] = _
    unfold p__law_near
    rw [seq_nx s1, seq_nx s2]
    refine seq_rt ((ite_t t5).trans ?_)
    simp [cRet, call_hs (i := 0) (j := 1) (x := .int L) (by omega) (show [rH h1, dI L, R.d (VV.d ⟨l, x, y, wd, ht⟩), dI l, dI x, dI y, dI wd, dI ht, dI 5][0]? = some (rH h1) from rfl) on_nd rfl rfl e2, Rs.bind]
  · have f5 : (r == 5) = false := by simpa using h5
    rw [f5] at t5
    by_cases h3 : r < 3
    · have d3 : decide (r < 3) = true := decide_eq_true h3
      rw [d3] at t3
      obtain ⟨r2, h2, c2, a2, b2, k2⟩ := nx_c h1 k1 3 (by omega) [dI L, .d (VV.d ⟨l, x, y, wd, ht⟩), dI l, dI x, dI y, dI wd, dI ht, dI r]
      have m1 := mx_ge 0 (x + r2 - 1)
      have m2 := mn_le (mx 0 (x + r2 - 1)) (sideI l - wd)
      have s4 : cSet 4 (cN minK [.e (cN maxK [.c (.int 0), .e (cN subK [.e (cN addK [.s 4, .e (cCall g__law_next [.s 0, .c (.int 3)])]), .c (.int 1)])]), .e (cN subK [.e (cCall g__law_side [.s 3]), .s 6])]) [rH h1, dI L, .d (VV.d ⟨l, x, y, wd, ht⟩), dI l, dI x, dI y, dI wd, dI ht, dI r] = .ok .nx [rH h2, dI L, .d (VV.d ⟨l, x, y, wd, ht⟩), dI l, dI (mn (mx 0 (x + r2 - 1)) (sideI l - wd)), dI y, dI wd, dI ht, dI r] := by
        have e1 := side_s (j := 3) hl6 (ρ := [rH h2, dI L, .d (VV.d ⟨l, x, y, wd, ht⟩), dI l, dI x, dI y, dI wd, dI ht, dI r]) rfl
        refine cSet_ok (i := 4) (cN_ee (cN_ce (k := maxK) (cN_ec (k := subK) (cN_se (k := addK) rfl c2 rfl rfl) rfl) rfl) (cN_es (k := subK) e1 rfl rfl) rfl)
      obtain ⟨r3, h3', c3, a3, b3, k3⟩ := nx_c h2 k2 3 (by omega) [dI L, .d (VV.d ⟨l, x, y, wd, ht⟩), dI l, dI (mn (mx 0 (x + r2 - 1)) (sideI l - wd)), dI y, dI wd, dI ht, dI r]
      have m3 := mx_ge 0 (y + r3 - 1)
      have m4 := mn_le (mx 0 (y + r3 - 1)) (sideI l - ht)
      have s5 : cSet 5 (cN minK [.e (cN maxK [.c (.int 0), .e (cN subK [.e (cN addK [.s 5, .e (cCall g__law_next [.s 0, .c (.int 3)])]), .c (.int 1)])]), .e (cN subK [.e (cCall g__law_side [.s 3]), .s 7])]) [rH h2, dI L, .d (VV.d ⟨l, x, y, wd, ht⟩), dI l, dI (mn (mx 0 (x + r2 - 1)) (sideI l - wd)), dI y, dI wd, dI ht, dI r] = .ok .nx [rH h3', dI L, .d (VV.d ⟨l, x, y, wd, ht⟩), dI l, dI (mn (mx 0 (x + r2 - 1)) (sideI l - wd)), dI (mn (mx 0 (y + r3 - 1)) (sideI l - ht)), dI wd, dI ht, dI r] := by
        have e1 := side_s (j := 3) hl6 (ρ := [rH h3', dI L, .d (VV.d ⟨l, x, y, wd, ht⟩), dI l, dI (mn (mx 0 (x + r2 - 1)) (sideI l - wd)), dI y, dI wd, dI ht, dI r]) rfl
        refine cSet_ok (i := 5) (cN_ee (cN_ce (k := maxK) (cN_ec (k := subK) (cN_se (k := addK) rfl c3 rfl rfl) rfl) rfl) (cN_es (k := subK) e1 rfl rfl) rfl)
      refine ⟨⟨l, mn (mx 0 (x + r2 - 1)) (sideI l - wd), mn (mx 0 (y + r3 - 1)) (sideI l - ht), wd, ht⟩, h3', ?_, ⟨hl6.1, hl1, by show 0 ≤ mn _ _; omega, by show 0 ≤ mn _ _; omega, hvw, hvh, hwh, by show mn (mx 0 (x + r2 - 1)) (sideI l - wd) + wd ≤ sideI l; omega, by show mn (mx 0 (y + r3 - 1)) (sideI l - ht) + ht ≤ sideI l; omega⟩, k3⟩
      refine (run_rt (ρ := [rH h3', dI L, .d (VV.d ⟨l, x, y, wd, ht⟩), dI l, dI (mn (mx 0 (x + r2 - 1)) (sideI l - wd)), dI (mn (mx 0 (y + r3 - 1)) (sideI l - ht)), dI wd, dI ht, dI r]) rfl ?_).trans rfl
      show p__law_near [rH h, dI L, _, .junk, .junk, .junk, .junk, .junk, .junk] = _
      unfold p__law_near
      rw [seq_nx s1, seq_nx s2, seq_nx (ite_nx t5)]
      refine seq_rt ((ite_t t3).trans ?_)
      rw [seq_nx s4, seq_nx s5]
      simp [cRet, cTup, cOps, cVar, toD, Rs.bind, hdRs, mkT, allD]
    · have d3 : decide (r < 3) = false := decide_eq_false h3
      rw [d3] at t3
      have ta : ∀ n : Int, fAnd (cTb (cN eqK [.s 8, .c (.int n)])) (cTb (cN gtK [.s 3, .c (.int 0)])) [rH h1, dI L, .d (VV.d ⟨l, x, y, wd, ht⟩), dI l, dI x, dI y, dI wd, dI ht, dI r] = .ok (r == n && decide (0 < l)) [rH h1, dI L, .d (VV.d ⟨l, x, y, wd, ht⟩), dI l, dI x, dI y, dI wd, dI ht, dI r] := fun n => by
        by_cases hn : r = n
        · simp [fAnd, cTb, cN, cOps, jD, Rs.bind, hviews, hview, vw, eqK_int, cmpK, asB, hn]
        · simp [fAnd, cTb, cN, cOps, jD, Rs.bind, hviews, hview, vw, eqK_int, cmpK, asB, hn]
      have tb : fAnd (cTb (cN eqK [.s 8, .c (.int 4)])) (cTb (cN ltK [.e (cN addK [.s 3, .c (.int 1)]), .s 1])) [rH h1, dI L, .d (VV.d ⟨l, x, y, wd, ht⟩), dI l, dI x, dI y, dI wd, dI ht, dI r] = .ok (r == 4 && decide (l + 1 < L)) [rH h1, dI L, .d (VV.d ⟨l, x, y, wd, ht⟩), dI l, dI x, dI y, dI wd, dI ht, dI r] := by
        by_cases hn : r = 4
        · simp [fAnd, cTb, cN, cOps, jD, Rs.bind, hviews, hview, vw, eqK_int, cmpK, asB, hn, addK]
        · simp [fAnd, cTb, cN, cOps, jD, Rs.bind, hviews, hview, vw, eqK_int, cmpK, asB, hn]
      have ta3 := ta 3
      by_cases hc : r = 3 ∧ 0 < l
      · have e3 : (r == 3 && decide (0 < l)) = true := by simp [hc]
        rw [e3] at ta3
        have hs := side_half ⟨hc.2, hl6.2⟩
        have sp1 := side_pos (l := l - 1) (by omega)
        refine ⟨⟨l - 1, x / 2, y / 2, 1, 1⟩, h1, ?_, ⟨by show 0 ≤ l - 1; omega, by show l - 1 < L; omega, by show 0 ≤ x / 2; omega, by show 0 ≤ y / 2; omega, by show (1 : Int) ≤ 1; decide, by show (1 : Int) ≤ 1; decide, by show (1 : Int) * 1 ≤ 16; decide, by show x / 2 + 1 ≤ sideI (l - 1); omega, by show y / 2 + 1 ≤ sideI (l - 1); omega⟩, k1⟩
        refine (run_rt (ρ := [rH h1, dI L, .d (VV.d ⟨l, x, y, wd, ht⟩), dI l, dI x, dI y, dI wd, dI ht, dI r]) rfl ?_).trans rfl
        show p__law_near [rH h, dI L, _, .junk, .junk, .junk, .junk, .junk, .junk] = _
        unfold p__law_near
        rw [seq_nx s1, seq_nx s2, seq_nx (ite_nx t5), seq_nx (ite_nx t3)]
        refine seq_rt ((ite_t ta3).trans ?_)
        simp [cRet, cTup, cOps, cN, jD, hviews, hview, vw, subK, fdivK, Rs.bind, hdRs, mkT, allD]
      · have e3 : (r == 3 && decide (0 < l)) = false := by
          by_cases q : r = 3
          · have : ¬ 0 < l := fun z => hc ⟨q, z⟩
            simp [this]
          · simp [q]
        rw [e3] at ta3
        by_cases hd : r = 4 ∧ l + 1 < L
        · have e4 : (r == 4 && decide (l + 1 < L)) = true := by simp [hd]
          rw [e4] at tb
          have hs := side_half (l := l + 1) (by omega)
          have e5 : l + 1 - 1 = l := by omega
          rw [e5] at hs
          have mw := mn_le wd 4
          have mh := mn_le ht 4
          have hwh4 : mn wd 4 * mn ht 4 ≤ 16 := by
            have h1 : mn wd 4 * mn ht 4 ≤ 4 * 4 := Int.mul_le_mul mw.2.1 mh.2.1 (by omega) (by omega)
            omega
          refine ⟨⟨l + 1, 2 * x, 2 * y, mn wd 4, mn ht 4⟩, h1, ?_, ⟨by show 0 ≤ l + 1; omega, hd.2, by show 0 ≤ 2 * x; omega, by show 0 ≤ 2 * y; omega, by show 1 ≤ mn wd 4; omega, by show 1 ≤ mn ht 4; omega, hwh4, by show 2 * x + mn wd 4 ≤ sideI (l + 1); omega, by show 2 * y + mn ht 4 ≤ sideI (l + 1); omega⟩, k1⟩
          refine (run_rt (ρ := [rH h1, dI L, .d (VV.d ⟨l, x, y, wd, ht⟩), dI l, dI x, dI y, dI wd, dI ht, dI r]) rfl ?_).trans rfl
          show p__law_near [rH h, dI L, _, .junk, .junk, .junk, .junk, .junk, .junk] = _
          unfold p__law_near
          rw [seq_nx s1, seq_nx s2, seq_nx (ite_nx t5), seq_nx (ite_nx t3), seq_nx (ite_nx ta3)]
          refine seq_rt ((ite_t tb).trans ?_)
          have m2 : ∀ z : Int, mulK [.int 2, .int z] = some (dI (2 * z)) := fun z => mulK_l (by decide)
          simp [cRet, cTup, cOps, cN, jD, hviews, hview, vw, addK, minK, m2, Rs.bind, hdRs, mkT, allD]
        · have e4 : (r == 4 && decide (l + 1 < L)) = false := by
            by_cases q : r = 4
            · have : ¬ l + 1 < L := fun z => hd ⟨q, z⟩
              simp [this]
            · simp [q]
          rw [e4] at tb
          refine ⟨⟨l, x, y, wd, ht⟩, h1, ?_, hv, k1⟩
          refine (run_rt (ρ := [rH h1, dI L, .d (VV.d ⟨l, x, y, wd, ht⟩), dI l, dI x, dI y, dI wd, dI ht, dI r]) rfl ?_).trans rfl
          show p__law_near [rH h, dI L, _, .junk, .junk, .junk, .junk, .junk, .junk] = _
          unfold p__law_near
          rw [seq_nx s1, seq_nx s2, seq_nx (ite_nx t5), seq_nx (ite_nx t3), seq_nx (ite_nx ta3), seq_nx (ite_nx tb)]
          simp [cRet, cMv, Rs.bind]
end TL
set_option linter.all false
set_option maxRecDepth 100000
set_option maxHeartbeats 4000000
namespace TL
open PySem PySem.Spec PyProof.Rows L2 TP
variable [TabsOf]
/-! ### loops -/
theorem forL_inv {g : GT} {s : SF} (J : Nat → List R → Prop) : ∀ {ds : List PyData} {i : Nat} {ρ : List R}, J i ρ → (∀ j d ρ, ds[j]? = some d → J (i + j) ρ → ∃ ρ1 ρ2, g (.d d) ρ = some ρ1 ∧ (s ρ1 = .ok .nx ρ2 ∨ s ρ1 = .ok .ct ρ2) ∧ J (i + j + 1) ρ2) →
    ∃ ρ', forL g s ds ρ = .ok .nx ρ' ∧ J (i + ds.length) ρ'
  | [], i, ρ, h, _ => ⟨ρ, rfl, h⟩
  | d :: ds, i, ρ, h, f => by
    obtain ⟨ρ1, ρ2, e1, e2, h2⟩ := f 0 d ρ rfl h
    obtain ⟨ρ', e3, h3⟩ := forL_inv J (ds := ds) (i := i + 1) (ρ := ρ2) h2 fun j d' ρ hj hJ => by
      obtain ⟨r1, r2, a, b, c⟩ := f (j + 1) d' ρ (by simpa using hj) (by rw [show i + (j + 1) = i + 1 + j by omega]; exact hJ)
      exact ⟨r1, r2, a, b, by rw [show i + 1 + j + 1 = i + (j + 1) + 1 by omega]; exact c⟩
    refine ⟨ρ', ?_, by rw [List.length_cons, show i + (ds.length + 1) = i + 1 + ds.length by omega]; exact h3⟩
    simp only [forL, e1]
    rcases e2 with e2 | e2 <;> rw [e2] <;> exact e3
theorem for_ok {src : RF} {g : GT} {s : SF} {ρ ρ1 : List R} {ds : List PyData} (h : src ρ = .ok ds ρ1) : cFor src g s ρ = forL g s ds ρ1 := by unfold cFor; rw [h]; rfl
theorem rng_len (lo : Int) (n : Nat) : (rngD lo n).length = n := by unfold rngD; simp
theorem rng_at {lo : Int} {n j : Nat} {d : PyData} (h : (rngD lo n)[j]? = some d) : d = .int (lo + j) ∧ j < n := by
  unfold rngD at h
  rw [List.getElem?_map] at h
  by_cases hj : j < n
  · rw [List.getElem?_range hj] at h
    simp at h
    exact ⟨h.symm, hj⟩
  · rw [List.getElem?_eq_none (by simp; omega)] at h
    cases h
theorem src_rng1_e {f : EF} {n : Int} {ρ ρ1 : List R} (hf : f ρ = .ok (dI n) ρ1) (h : 0 ≤ n ∧ n < 1000000) : sRng rng1 [.e f] ρ = .ok (rngD 0 n.toNat) ρ1 := by
  have : rng1 [.int n] = some (0, n.toNat) := if_pos (by omega)
  simp [sRng, cOps, hf, Rs.bind, hviews, hview, vw, this]
theorem src_rng1_c {n : Int} {ρ : List R} (h : 0 ≤ n ∧ n < 1000000) : sRng rng1 [.c (.int n)] ρ = .ok (rngD 0 n.toNat) ρ := by
  have : rng1 [.int n] = some (0, n.toNat) := if_pos (by omega)
  simp [sRng, cOps, Rs.bind, hviews, hview, vw, this]
theorem call_hse {g : GF} {x y : PyData} {r0 r r' q : R} {ρ ρ1 : List R} {f : EF} (nj0 : isJ r0 = false) (nd : ∀ y, r ≠ .d y) (nj : isJ r = false) (hf : f (r0 :: .d x :: ρ) = .ok (.d y) (r :: .d x :: ρ1)) (e : g [r, .d x, .d y] = .ok q [r', .d x, .d y]) :
    cCall g [.s 0, .s 1, .e f] (r0 :: .d x :: ρ) = .ok q (r' :: .d x :: ρ1) := by
  have t : takeHs (r :: .d x :: ρ1) [.s 0, .s 1, .t (.d y)] = some ([r, .d x, .d y], .junk :: .d x :: ρ1) := by
    cases r with
    | d y => exact absurd rfl (nd y)
    | _ => simp_all [takeHs]
  simp [cCall, cOps, nj0, jD, Rs.bind, hf, t, e, putHs]
section
variable {k : List PyData → Option R} {f g : EF} {x y : PyData} {ρ ρ1 ρ2 : List R} {r r1 q : R} {i j : Nat}
theorem vw_d (y : PyData) : vw (.d y) = some y := (rfl)
theorem jV (h : vw r = some x) : isJ r = false := by cases r <;> first | rfl | cases h
theorem v_s (h0 : ρ[i]? = some r) (hv : vw r = some x) (hk : k [x] = some q) : cN k [.s i] ρ = .ok q ρ := by
  simp [cN, cOps, h0, jV hv, Rs.bind, hviews, hview, hv, hk]
theorem v_e (hf : f ρ = .ok r ρ1) (hv : vw r = some x) (hk : k [x] = some q) : cN k [.e f] ρ = .ok q ρ1 := by
  simp [cN, cOps, hf, Rs.bind, hviews, hview, hv, hk]
theorem v_c (hk : k [x] = some q) : cN k [.c x] ρ = .ok q ρ := by
  simp [cN, cOps, Rs.bind, hviews, hview, vw_d, hk]
theorem v_se (h0 : ρ[i]? = some r) (hv : vw r = some x) (hf : f ρ = .ok r1 ρ1) (hv1 : vw r1 = some y) (h1 : ρ1[i]? = some r) (hk : k [x, y] = some q) : cN k [.s i, .e f] ρ = .ok q ρ1 := by
  simp [cN, cOps, h0, jV hv, Rs.bind, hf, hviews, hview, h1, hv, hv1, hk]
theorem v_ss (h0 : ρ[i]? = some r) (hv : vw r = some x) (h1 : ρ[j]? = some r1) (hv1 : vw r1 = some y) (hk : k [x, y] = some q) : cN k [.s i, .s j] ρ = .ok q ρ := by
  simp [cN, cOps, h0, h1, jV hv, jV hv1, Rs.bind, hviews, hview, hv, hv1, hk]
theorem v_sc (h0 : ρ[i]? = some r) (hv : vw r = some x) (hk : k [x, y] = some q) : cN k [.s i, .c y] ρ = .ok q ρ := by
  simp [cN, cOps, h0, jV hv, Rs.bind, hviews, hview, hv, vw_d, hk]
theorem v_cs (h0 : ρ[i]? = some r) (hv : vw r = some y) (hk : k [x, y] = some q) : cN k [.c x, .s i] ρ = .ok q ρ := by
  simp [cN, cOps, h0, jV hv, Rs.bind, hviews, hview, hv, vw_d, hk]
theorem v_ee (hf : f ρ = .ok r ρ1) (hv : vw r = some x) (hg : g ρ1 = .ok r1 ρ2) (hv1 : vw r1 = some y) (hk : k [x, y] = some q) : cN k [.e f, .e g] ρ = .ok q ρ2 := by
  simp [cN, cOps, Rs.bind, hf, hg, hviews, hview, hv, hv1, hk]
theorem v_ec (hf : f ρ = .ok r ρ1) (hv : vw r = some x) (hk : k [x, y] = some q) : cN k [.e f, .c y] ρ = .ok q ρ1 := by
  simp [cN, cOps, Rs.bind, hf, hviews, hview, hv, vw_d, hk]
theorem v_ce (hf : f ρ = .ok r ρ1) (hv : vw r = some y) (hk : k [x, y] = some q) : cN k [.c x, .e f] ρ = .ok q ρ1 := by
  simp [cN, cOps, Rs.bind, hf, hviews, hview, hv, vw_d, hk]
theorem v_es (hf : f ρ = .ok r ρ1) (hv : vw r = some x) (h1 : ρ1[i]? = some r1) (hv1 : vw r1 = some y) (hk : k [x, y] = some q) : cN k [.e f, .s i] ρ = .ok q ρ1 := by
  simp [cN, cOps, Rs.bind, hf, h1, jV hv1, hviews, hview, hv, hv1, hk]
theorem drop_ok (h : f ρ = .ok r ρ1) : cDrop f ρ = .ok .nx ρ1 := by simp [cDrop, h, Rs.bind]
theorem ret_ok (h : f ρ = .ok r ρ1) : cRet f ρ = .ok (.rt r) ρ1 := by simp [cRet, h, Rs.bind]
/-- xs.append(x), xs in a slot -/
theorem app_ok {xs : List PyData} (h0 : ρ[i]? = some (.ol xs)) (hf : f ρ = .ok r ρ1) (h1 : ρ1[i]? = some (.ol xs)) (hr : toD r = some x) (hl : xs.length < 100000) : cMut i [] isList appendM [.e f] ρ = .ok (.d .none) (ρ1.set i (.ol (xs ++ [x]))) := by
  have j : isJ (R.ol xs) = false := (rfl)
  simp [cMut, getP, h0, isList, cOps, hf, Rs.bind, h1, hdArgs, j, appendM, hr, hl, setP]
end
/-! ### _law_way -/
def viewsD (vs : List VV) : List PyData := vs.map VV.d
theorem way_ok (h : Hs) (ok : Hok h) (L : Int) (hL : 1 ≤ L ∧ L ≤ 6) (m : Int) (hm : 0 < m ∧ m ≤ 40) : ∃ vs h', g__law_way [rH h, dI L, dI m] = .ok (.ol (viewsD vs)) [rH h', dI L, dI m] ∧ (∀ v ∈ vs, VOk L v) ∧ 1 ≤ vs.length ∧ (vs.length : Int) ≤ m ∧ Hok h' := by
  obtain ⟨v, h1, e1, ok1, k1⟩ := view_ok h ok L hL
  have s1 : cSet 3 (cLst [.e (cCall g__law_view [.s 0, .s 1])]) [rH h, dI L, dI m, .junk, .junk] = .ok .nx [rH h1, dI L, dI m, .ol (viewsD [v]), .junk] := by
    have c : cCall g__law_view [.s 0, .s 1] [rH h, dI L, dI m, .junk, .junk] = .ok (.d v.d) [rH h1, dI L, dI m, .junk, .junk] := call_hs (by omega) rfl on_nd rfl rfl e1
    simp [cSet, cLst, cOps, Rs.bind, c, hdRs, mkL, allD, viewsD]
  obtain ⟨n, h2, c2, a2, b2, k2⟩ := nx_s h1 k1 1 m (by omega) [dI L, dI m, .ol (viewsD [v]), .junk] rfl
  have src : sRng rng1 [.e (cCall g__law_next [.s 0, .s 2])] [rH h1, dI L, dI m, .ol (viewsD [v]), .junk] = .ok (rngD 0 n.toNat) [rH h2, dI L, dI m, .ol (viewsD [v]), .junk] := src_rng1_e c2 (by omega)
  obtain ⟨ρ', e3, hJ⟩ := forL_inv (g := gN 4) (s := cDrop (cMut 3 [] isList appendM [.e (cCall g__law_near [.s 0, .s 1, .e (cN ixK [.s 3, .e (cN subK [.e (cN negK [.c (.int 1)]), .e (cCall g__law_next [.s 0, .e (cN minK [.c (.int 2), .e (cN lenK [.s 3])])])])])])]))
    (fun i ρ => ∃ h' vs r, ρ = [rH h', dI L, dI m, .ol (viewsD vs), r] ∧ Hok h' ∧ (∀ v ∈ vs, VOk L v) ∧ vs.length = i + 1) (ds := rngD 0 n.toNat) (i := 0) (ρ := [rH h2, dI L, dI m, .ol (viewsD [v]), .junk])
    ⟨h2, [v], .junk, rfl, k2, by simpa using ok1, rfl⟩ (by
      rintro j d ρ hj ⟨h', vs, r, rfl, k', okv, hlen⟩
      obtain ⟨rfl, hjn⟩ := rng_at hj
      have hln : vs.length ≤ 100 := by omega
      refine ⟨[rH h', dI L, dI m, .ol (viewsD vs), dI (0 + j)], ?_⟩
      -- the choice of the one to come near to
      have q1 : cN minK [.c (.int 2), .e (cN lenK [.s 3])] [rH h', dI L, dI m, .ol (viewsD vs), dI (0 + j)] = .ok (dI (mn 2 vs.length)) [rH h', dI L, dI m, .ol (viewsD vs), dI (0 + j)] := by
        refine v_ce (v_s (i := 3) rfl rfl rfl) rfl ?_
        show minK [.int 2, .int ((viewsD vs).length : Nat)] = _
        unfold viewsD; rw [List.length_map]; rfl
      have mm := mn_le 2 (vs.length : Int)
      obtain ⟨r2, h3, c3, a3, b3, k3⟩ := nx_e h' h' k' (mn 2 vs.length) (by omega) [dI L, dI m, .ol (viewsD vs), dI (0 + j)] [dI L, dI m, .ol (viewsD vs), dI (0 + j)] _ q1
      obtain ⟨p, hp⟩ : ∃ p : Nat, (p : Int) = vs.length - 1 - r2 := ⟨(vs.length - 1 - r2).toNat, by omega⟩
      have hpl : p < vs.length := by omega
      have hat : atI (viewsD vs) (-1 - r2) = some vs[p].d := by
        unfold atI ixN viewsD
        rw [List.length_map, if_neg (by omega), if_pos (by omega), Option.bind_some, List.getElem?_map]
        have : (-1 - r2 + (vs.length : Int)).toNat = p := by omega
        rw [this, List.getElem?_eq_getElem hpl]; rfl
      have q2 : cN ixK [.s 3, .e (cN subK [.e (cN negK [.c (.int 1)]), .e (cCall g__law_next [.s 0, .e (cN minK [.c (.int 2), .e (cN lenK [.s 3])])])])] [rH h', dI L, dI m, .ol (viewsD vs), dI (0 + j)] = .ok (.d vs[p].d) [rH h3, dI L, dI m, .ol (viewsD vs), dI (0 + j)] := by
        refine v_se (i := 3) rfl rfl (v_ee (v_c (k := negK) rfl) rfl c3 rfl rfl) rfl rfl ?_
        show (atI (viewsD vs) (-1 - r2)).map R.d = _
        rw [hat]; rfl
      obtain ⟨v', h4, e4, ok4, k4⟩ := near_ok h3 k3 L hL vs[p] (okv _ (List.getElem_mem hpl))
      have q3 := call_hse (r' := rH h4) (q := .d v'.d) (show isJ (rH h') = false from rfl) on_nd rfl q2 e4
      refine ⟨_, rfl, .inl (drop_ok (app_ok (i := 3) (xs := viewsD vs) rfl q3 rfl rfl (by unfold viewsD; rw [List.length_map]; omega))), h4, vs ++ [v'], dI (0 + j), ?_, k4, ?_, ?_⟩
      · simp [viewsD]
      · intro v hv
        rcases List.mem_append.mp hv with z | z
        · exact okv v z
        · rw [List.mem_singleton.mp z]; exact ok4
      · simp [hlen])
  obtain ⟨h', vs, r, rfl, k', okv, hlen⟩ := hJ
  rw [rng_len] at hlen
  refine ⟨vs, h', ?_, okv, by omega, by omega, k'⟩
  refine (run_rt (ρ := [rH h', dI L, dI m, .junk, r]) rfl ?_).trans rfl
  show p__law_way [rH h, dI L, dI m, .junk, .junk] = _
  unfold p__law_way
  rw [seq_nx s1, seq_nx ((for_ok src).trans e3)]
  simp [cRet, cMv, Rs.bind, isJ]
end TL
set_option linter.all false
set_option maxRecDepth 100000
set_option maxHeartbeats 4000000
namespace TL
open PySem PySem.Spec PyProof.Rows L2 TP
variable [TabsOf]
/-! ### comprehensions -/
theorem compL_pure {own : List Nat} {g : GT} {t : TF} {f : EF} {B : List R} {p : PyData → Bool} {m : PyData → PyData} : ∀ {ds acc : List PyData} {ρ : List R}, wipeR ρ own = B → acc.length + ds.length ≤ 100000 →
    (∀ d ∈ ds, ∃ ρa ρb, g (.d d) B = some ρa ∧ t ρa = .ok (p d) ρb ∧ (p d = false → wipeR ρb own = B) ∧ (p d = true → ∃ r ρc, f ρb = .ok r ρc ∧ toD r = some (m d) ∧ wipeR ρc own = B)) →
    ∃ ρ', compL g t f own ds acc ρ = .ok (acc ++ (ds.filter p).map m) ρ' ∧ wipeR ρ' own = B
  | [], acc, ρ, hB, _, _ => ⟨ρ, by simp [compL], hB⟩
  | d :: ds, acc, ρ, hB, hl, h => by
    obtain ⟨ρa, ρb, e1, e2, h1, h2⟩ := h d List.mem_cons_self
    simp only [compL, hB, e1, e2, noEx, Rs.bind]
    cases hp : p d with
    | false =>
      obtain ⟨ρ', e3, hB'⟩ := compL_pure (ds := ds) (acc := acc) (ρ := ρb) (h1 hp) (by simp at hl; omega) fun d' hd => h d' (List.mem_cons_of_mem _ hd)
      exact ⟨ρ', by simp [hp, e3], hB'⟩
    | true =>
      obtain ⟨r, ρc, e3, e4, hc⟩ := h2 hp
      obtain ⟨ρ', e5, hB'⟩ := compL_pure (ds := ds) (acc := acc ++ [m d]) (ρ := ρc) hc (by simp at hl ⊢; omega) fun d' hd => h d' (List.mem_cons_of_mem _ hd)
      refine ⟨ρ', ?_, hB'⟩
      rw [if_pos rfl]
      simp only [e3, noEx, e4]
      rw [if_pos (by simp at hl; omega), e5]
      simp [hp]
theorem comp_ok {src : RF} {own : List Nat} {g : GT} {t : TF} {f : EF} {ρ ρ1 B : List R} {ds : List PyData} (p : PyData → Bool) (m : PyData → PyData) (hs : src ρ = .ok ds ρ1) (hso : own.all (fun i => slotOk ρ1[i]?) = true) (hB : wipeR ρ1 own = B) (hBB : wipeR B own = B) (hback : backR ρ1 B own = ρ1) (hl : ds.length ≤ 100000)
    (h : ∀ d ∈ ds, ∃ ρa ρb, g (.d d) B = some ρa ∧ t ρa = .ok (p d) ρb ∧ (p d = false → wipeR ρb own = B) ∧ (p d = true → ∃ r ρc, f ρb = .ok r ρc ∧ toD r = some (m d) ∧ wipeR ρc own = B)) :
    cComp src own g t f ρ = .ok (.ol ((ds.filter p).map m)) ρ1 := by
  obtain ⟨ρ', e, hB'⟩ := compL_pure (acc := []) (ρ := wipeR ρ1 own) (by rw [hB]; exact hBB) (by simpa using hl) h
  unfold cComp
  rw [hs]
  simp only [Rs.bind]
  rw [if_pos hso, e]
  simp only [List.nil_append]
  rw [hB', hback]
theorem ops_e {f : EF} {os : List Op} {ρ ρ1 ρ2 : List R} {r : R} {hs : List Hd} (hf : f ρ = .ok r ρ1) (h : cOps os ρ1 = .ok hs ρ2) : cOps (.e f :: os) ρ = .ok (.t r :: hs) ρ2 := by
  simp [cOps, hf, Rs.bind, h]
theorem ops_c {x : PyData} {os : List Op} {ρ ρ2 : List R} {hs : List Hd} (h : cOps os ρ = .ok hs ρ2) : cOps (.c x :: os) ρ = .ok (.t (.d x) :: hs) ρ2 := by
  simp [cOps, Rs.bind, h]
theorem tup_ok {os : List Op} {ρ ρ1 : List R} {hs : List Hd} {rs : List R} (h : cOps os ρ = .ok hs ρ1) (e : hdRs hs = some rs) (hl : rs.length ≤ 1000) : cTup os ρ = .ok (mkT rs) ρ1 := by
  simp [cTup, h, Rs.bind, e, hl]
theorem lst_ok {os : List Op} {ρ ρ1 : List R} {hs : List Hd} {rs : List R} (h : cOps os ρ = .ok hs ρ1) (e : hdRs hs = some rs) (hl : rs.length ≤ 1000) : cLst os ρ = .ok (mkL rs) ρ1 := by
  simp [cLst, h, Rs.bind, e, hl]
theorem filter_yes {α : Type} : ∀ l : List α, l.filter (fun _ => true) = l
  | [] => rfl
  | a :: l => by simp
/-! ### _law_mix -/
theorem mix_ok (ns : List Int) (hn : ns.length ≤ 63) (z : Int) : ∃ h, g__law_mix [.d (.list (ns.map .int)), dI z] = .ok (rH h) [.d (.list (ns.map .int)), dI z] ∧ Hok h := by
  obtain ⟨ρ', e3, hJ⟩ := forL_inv (g := gN 3) (s := cSet 2 (cN modK [.e (cN addK [.e (cN addK [.e (cN mulK [.s 2, .c (.int 48271)]), .e (cN modK [.s 3, .c (.int 2147483629)])]), .c (.int 1)]), .c (.int 2147483647)]))
    (fun i ρ => ∃ y r, ρ = [.d (.list (ns.map .int)), dI z, dI y, r]) (ds := ns.map .int) (i := 0) (ρ := [.d (.list (ns.map .int)), dI z, dI z, .junk]) ⟨z, .junk, rfl⟩ (by
      rintro j d ρ hj ⟨y, r, rfl⟩
      rw [List.getElem?_map] at hj
      cases e : ns[j]? with
      | none => rw [e] at hj; cases hj
      | some n =>
        rw [e] at hj; cases hj
        refine ⟨[.d (.list (ns.map .int)), dI z, dI y, dI n], _, rfl, .inl (cSet_ok (v_ec (v_ec (v_ee (v_sc (k := mulK) (i := 2) rfl rfl (mulK_r (by decide))) rfl (v_sc (k := modK) (i := 3) rfl rfl (modK_ok (by decide))) rfl rfl) rfl rfl) rfl (modK_ok (by decide)))), _, dI n, rfl⟩)
  obtain ⟨y, r, rfl⟩ := hJ
  refine ⟨⟨y, ns, 0⟩, ?_, ⟨hn, by show (0 : Int) ≤ 0; decide⟩⟩
  refine (run_rt (ρ := [.d (.list (ns.map .int)), dI z, dI y, r]) rfl ?_).trans rfl
  show p__law_mix [.d (.list (ns.map .int)), dI z, .junk, .junk] = _
  unfold p__law_mix
  have s1 : cSet 2 (cVar 1) [.d (.list (ns.map .int)), dI z, .junk, .junk] = .ok .nx [.d (.list (ns.map .int)), dI z, dI z, .junk] := (rfl)
  have src : sList (cVar 0) [.d (.list (ns.map .int)), dI z, dI z, .junk] = .ok (ns.map .int) [.d (.list (ns.map .int)), dI z, dI z, .junk] := (rfl)
  rw [seq_nx s1, seq_nx ((for_ok src).trans e3)]
  rfl
/-! ### _law_wants, _law_needs -/
def wantsI (v : VV) : List (List Int) := (List.range (v.w * v.h).toNat).map fun (k : Nat) => [v.l, v.x + (k : Int) / v.h, v.y + (k : Int) % v.h]
theorem wants_ok (L : Int) (v : VV) (hv : VOk L v) : g__law_wants [.d v.d] = .ok (.ol ((wantsI v).map rowD)) [.d v.d] := by
  obtain ⟨l, x, y, wd, ht⟩ := v
  have hvw := hv.w0; have hvh := hv.h0; have hwh := hv.wh
  simp only at hvw hvh hwh
  have hp : 0 ≤ wd * ht := Int.mul_nonneg (by omega) (by omega)
  have s1 : cAsg (cVar 0) (gT [gN 1, gN 2, gN 3, gN 4, gN 5]) [.d (VV.d ⟨l, x, y, wd, ht⟩), .junk, .junk, .junk, .junk, .junk, .junk] = .ok .nx [.d (VV.d ⟨l, x, y, wd, ht⟩), dI l, dI x, dI y, dI wd, dI ht, .junk] := (rfl)
  have hw16 : wd ≤ 16 := by
    have : wd * 1 ≤ wd * ht := Int.mul_le_mul_of_nonneg_left hvh (by omega)
    omega
  have hh16 : ht ≤ 16 := by
    have : 1 * ht ≤ wd * ht := Int.mul_le_mul_of_nonneg_right hvw (by omega)
    omega
  have src : sRng rng1 [.e (cN mulK [.s 4, .s 5])] [.d (VV.d ⟨l, x, y, wd, ht⟩), dI l, dI x, dI y, dI wd, dI ht, .junk] = .ok (rngD 0 (wd * ht).toNat) [.d (VV.d ⟨l, x, y, wd, ht⟩), dI l, dI x, dI y, dI wd, dI ht, .junk] :=
    src_rng1_e (v_ss (k := mulK) (i := 4) (j := 5) rfl rfl rfl rfl (mulK_l (by unfold small; simp only [Bool.and_eq_true, decide_eq_true_eq]; omega))) (by omega)
  have c := comp_ok (own := [6]) (g := gN 6) (t := fYes) (f := cTup [.e (cVar 1), .e (cN addK [.s 2, .e (cN fdivK [.s 6, .s 5])]), .e (cN addK [.s 3, .e (cN modK [.s 6, .s 5])])]) (fun _ => true) (fun d => match d with
    | .int k => rowD [l, x + k / ht, y + k % ht]
    | _ => .none) src rfl rfl rfl rfl (by rw [rng_len]; omega) (by
      intro d hd
      obtain ⟨j, hj⟩ := List.mem_iff_getElem?.mp hd
      obtain ⟨rfl, hjn⟩ := rng_at hj
      refine ⟨[.d (VV.d ⟨l, x, y, wd, ht⟩), dI l, dI x, dI y, dI wd, dI ht, dI (0 + j)], _, rfl, rfl, (fun z => by cases z), fun _ => ?_⟩
      have e1 := v_se (k := addK) (i := 2) (ρ := [.d (VV.d ⟨l, x, y, wd, ht⟩), dI l, dI x, dI y, dI wd, dI ht, dI (0 + j)]) (x := .int x) rfl rfl (v_ss (k := fdivK) (i := 6) (j := 5) (x := .int (0 + j)) (y := .int ht) rfl rfl rfl rfl (fdivK_ok (by omega))) rfl rfl rfl
      have e2 := v_se (k := addK) (i := 3) (ρ := [.d (VV.d ⟨l, x, y, wd, ht⟩), dI l, dI x, dI y, dI wd, dI ht, dI (0 + j)]) (x := .int y) rfl rfl (v_ss (k := modK) (i := 6) (j := 5) (x := .int (0 + j)) (y := .int ht) rfl rfl rfl rfl (modK_ok (by omega))) rfl rfl rfl
      refine ⟨.d (rowD [l, x + (0 + (j : Int)) / ht, y + (0 + (j : Int)) % ht]), [.d (VV.d ⟨l, x, y, wd, ht⟩), dI l, dI x, dI y, dI wd, dI ht, dI (0 + j)], ?_, rfl, rfl⟩
      exact tup_ok (rs := [dI l, dI (x + (0 + (j : Int)) / ht), dI (y + (0 + (j : Int)) % ht)]) (ops_e (r := dI l) rfl (ops_e e1 (ops_e e2 (show cOps [] _ = .ok [] _ from rfl)))) rfl (by simp))
  refine (run_rt (ρ := [.d (VV.d ⟨l, x, y, wd, ht⟩), dI l, dI x, dI y, dI wd, dI ht, .junk]) rfl ?_).trans rfl
  show p__law_wants [.d (VV.d ⟨l, x, y, wd, ht⟩), .junk, .junk, .junk, .junk, .junk, .junk] = _
  unfold p__law_wants
  rw [seq_nx s1]
  refine ret_ok (c.trans ?_)
  rw [filter_yes]
  unfold wantsI rngD
  rw [List.map_map, List.map_map]
  congr 2
  refine List.map_congr_left fun k _ => ?_
  simp [rowD]
end TL
set_option linter.all false
set_option maxRecDepth 100000
set_option maxHeartbeats 4000000
namespace TL
open PySem PySem.Spec PyProof.Rows L2 TP
variable [TabsOf]
/-! ### equality of plain data -/
mutual
def plainD : PyData → Bool
  | .none => true
  | .int _ => true
  | .str _ => true
  | .list xs => plainDs xs
  | .tuple xs => plainDs xs
  | _ => false
def plainDs : List PyData → Bool
  | [] => true
  | x :: xs => plainD x && plainDs xs
end
mutual
theorem eqv_plain : ∀ {x y : PyData}, plainD x = true → plainD y = true → (PyData.eqv x y = true ↔ x = y)
  | .none, y, _, hy => by cases y <;> simp_all [PyData.eqv, plainD]
  | .int i, y, _, hy => by cases y <;> simp_all [PyData.eqv, plainD]
  | .str i, y, _, hy => by cases y <;> simp_all [PyData.eqv, plainD]
  | .list xs, y, hx, hy => by
    cases y with
    | list ys =>
      have := eqvAll_plain (xs := xs) (ys := ys) (by simpa [plainD] using hx) (by simpa [plainD] using hy)
      simp [PyData.eqv, this]
    | _ => simp_all [PyData.eqv, plainD]
  | .tuple xs, y, hx, hy => by
    cases y with
    | tuple ys =>
      have := eqvAll_plain (xs := xs) (ys := ys) (by simpa [plainD] using hx) (by simpa [plainD] using hy)
      simp [PyData.eqv, this]
    | _ => simp_all [PyData.eqv, plainD]
  | .bool _, _, h, _ => by simp [plainD] at h
  | .dict _, _, h, _ => by simp [plainD] at h
theorem eqvAll_plain : ∀ {xs ys : List PyData}, plainDs xs = true → plainDs ys = true → (PyData.eqvAll xs ys = true ↔ xs = ys)
  | [], [], _, _ => by simp [PyData.eqvAll]
  | [], _ :: _, _, _ => by simp [PyData.eqvAll]
  | _ :: _, [], _, _ => by simp [PyData.eqvAll]
  | x :: xs, y :: ys, hx, hy => by
    simp only [plainDs, Bool.and_eq_true] at hx hy
    have h1 := eqv_plain hx.1 hy.1
    have h2 := eqvAll_plain hx.2 hy.2
    simp [PyData.eqvAll, h1, h2]
end
theorem plain_ints : ∀ xs : List Int, plainDs (xs.map .int) = true
  | [] => by simp [plainDs]
  | x :: xs => by simp [plainDs, plainD, plain_ints xs]
theorem plain_row (r : List Int) : plainD (rowD r) = true := by unfold rowD plainD; exact plain_ints r
theorem rowD_inj {a b : List Int} : rowD a = rowD b ↔ a = b := by
  constructor
  · intro h
    unfold rowD at h
    injection h with h
    have key : ∀ {a b : List Int}, a.map PyData.int = b.map PyData.int → a = b := by
      intro a
      induction a with
      | nil => intro b h; cases b with | nil => rfl | cons _ _ => simp at h
      | cons x a ih => intro b h; cases b with | nil => simp at h | cons y b => simp at h; rw [h.1, ih h.2]
    exact key h
  · intro h; rw [h]
theorem eqv_row (a b : List Int) : PyData.eqv (rowD a) (rowD b) = decide (a = b) := by
  have h := eqv_plain (plain_row a) (plain_row b)
  rw [rowD_inj] at h
  by_cases e : a = b
  · rw [h.mpr e, decide_eq_true e]
  · rw [decide_eq_false e]
    exact Bool.eq_false_iff.mpr fun z => e (h.mp z)
theorem shaped_row (r : List Int) : SeqAt.shaped (rowD r) = true := by
  unfold SeqAt.shaped rowD
  have h := PySem.W.depth_ints r
  simp [PyData.canLay0, canLay_ints, PyData.depth, h]
theorem canLay_rows : ∀ rs : List (List Int), PyData.canLayAll0 (rs.map rowD) = true
  | [] => by simp [PyData.canLayAll0]
  | r :: rs => by simp [PyData.canLayAll0, rowD, PyData.canLay0, canLay_ints, canLay_rows rs]
theorem depth_rows : ∀ rs : List (List Int), PyData.depthAll (rs.map rowD) ≤ 1
  | [] => by simp [PyData.depthAll]
  | r :: rs => by
    have h1 := PySem.W.depth_ints r
    have h2 := depth_rows rs
    simp only [List.map_cons, PyData.depthAll, rowD, PyData.depth, h1] at *
    omega
theorem shaped_rows (rs : List (List Int)) : SeqAt.shaped (.list (rs.map rowD)) = true := by
  have h := depth_rows rs
  have d : (PyData.list (rs.map rowD)).depth ≤ 64 := by
    rw [PyData.depth]
    omega
  unfold SeqAt.shaped
  rw [decide_eq_true d]
  simp [PyData.canLay0, canLay_rows]
theorem neK_row (a b : List Int) : neK [rowD a, rowD b] = some (.d (.bool (!decide (a = b)))) := by
  have : neK [rowD a, rowD b] = if (notDict (rowD a) && notDict (rowD b) && SeqAt.shaped (rowD a) && SeqAt.shaped (rowD b)) = true then some (.d (.bool (!PyData.eqv (rowD a) (rowD b)))) else none := (rfl)
  rw [this, if_pos (by rw [shaped_row, shaped_row]; rfl), eqv_row]
/-! ### x in rows -/
theorem inB_row (a : List Int) (rs : List (List Int)) : inB (rowD a) (.list (rs.map rowD)) = some (decide (a ∈ rs)) := by
  unfold inB
  simp only
  rw [if_pos (by rw [shaped_row, shaped_rows]; rfl)]
  congr 1
  rw [List.any_map]
  induction rs with
  | nil => simp
  | cons r rs ih =>
    rw [List.any_cons, ih]
    simp only [Function.comp, eqv_row]
    by_cases e : r = a
    · subst e; simp
    · have e' : ¬ a = r := fun z => e z.symm
      simp [e, e']
theorem inK_row (a : List Int) (rs : List (List Int)) : inK [rowD a, .list (rs.map rowD)] = some (.d (.bool (decide (a ∈ rs)))) := by
  unfold inK; simp only [inB_row]; rfl
theorem notInK_row (a : List Int) (rs : List (List Int)) : notInK [rowD a, .list (rs.map rowD)] = some (.d (.bool (!decide (a ∈ rs)))) := by
  unfold notInK; simp only [inB_row]; rfl
theorem eqv_rows (as bs : List (List Int)) : PyData.eqv (.list (as.map rowD)) (.list (bs.map rowD)) = decide (as = bs) := by
  have hp : ∀ rs : List (List Int), plainDs (rs.map rowD) = true := by
    intro rs
    induction rs with
    | nil => simp [plainDs]
    | cons r rs ih => simp [plainDs, plain_row, ih]
  have h := eqv_plain (x := .list (as.map rowD)) (y := .list (bs.map rowD)) (by simp [plainD, hp]) (by simp [plainD, hp])
  have inj : (PyData.list (as.map rowD) = .list (bs.map rowD)) ↔ as = bs := by
    constructor
    · intro e
      injection e with e
      have key : ∀ {as bs : List (List Int)}, as.map rowD = bs.map rowD → as = bs := by
        intro as
        induction as with
        | nil => intro b h; cases b with | nil => rfl | cons _ _ => simp at h
        | cons x a ih => intro b h; cases b with | nil => simp at h | cons y b => simp at h; rw [rowD_inj.mp h.1, ih h.2]
      exact key e
    · intro e; rw [e]
  rw [inj] at h
  by_cases e : as = bs
  · rw [h.mpr e, decide_eq_true e]
  · rw [decide_eq_false e]
    exact Bool.eq_false_iff.mpr fun z => e (h.mp z)
theorem eqK_rows (as bs : List (List Int)) : eqK [.list (as.map rowD), .list (bs.map rowD)] = some (.d (.bool (decide (as = bs)))) := by
  have : eqK [.list (as.map rowD), .list (bs.map rowD)] = if (notDict (.list (as.map rowD)) && notDict (.list (bs.map rowD)) && SeqAt.shaped (.list (as.map rowD)) && SeqAt.shaped (.list (bs.map rowD))) = true then some (.d (.bool (PyData.eqv (.list (as.map rowD)) (.list (bs.map rowD))))) else none := (rfl)
  rw [this, if_pos (by rw [shaped_rows, shaped_rows]; rfl), eqv_rows]
theorem neK_rows (as bs : List (List Int)) : neK [.list (as.map rowD), .list (bs.map rowD)] = some (.d (.bool (!decide (as = bs)))) := by
  have : neK [.list (as.map rowD), .list (bs.map rowD)] = if (notDict (.list (as.map rowD)) && notDict (.list (bs.map rowD)) && SeqAt.shaped (.list (as.map rowD)) && SeqAt.shaped (.list (bs.map rowD))) = true then some (.d (.bool (!PyData.eqv (.list (as.map rowD)) (.list (bs.map rowD))))) else none := (rfl)
  rw [this, if_pos (by rw [shaped_rows, shaped_rows]; rfl), eqv_rows]
end TL
set_option linter.all false
set_option maxRecDepth 100000
set_option maxHeartbeats 4000000
namespace TL
open PySem PySem.Spec PyProof.Rows L2 TP
variable [TabsOf]
abbrev rowsD (rs : List (List Int)) : PyData := .list (rs.map rowD)
abbrev W0 : List Int := [0, 0, 0]
def needsI (v : VV) : List (List Int) := (wantsI v).filter fun r => !decide (r = W0)
/-- the rows of a filter, as data -/
theorem filter_rows (p : List Int → Bool) (q : PyData → Bool) (m : PyData → PyData) (h1 : ∀ r, q (rowD r) = p r) (h2 : ∀ r, m (rowD r) = rowD r) (rs : List (List Int)) : ((rs.map rowD).filter q).map m = (rs.filter p).map rowD := by
  induction rs with
  | nil => rfl
  | cons r rs ih =>
    simp only [List.map_cons, List.filter_cons, h1]
    split
    · simp [h2, ih]
    · exact ih
/-- of data that are rows: a test read off the row -/
def onRow (p : List Int → Bool) : PyData → Bool
  | .tuple xs => match intsOf xs with
    | some r => p r
    | none => false
  | _ => false
theorem onRow_row (p : List Int → Bool) (r : List Int) : onRow p (rowD r) = p r := by
  unfold onRow rowD
  simp [intsOf_map]
theorem wants_len (v : VV) : (wantsI v).length = (v.w * v.h).toNat := by unfold wantsI; simp
theorem needs_len (v : VV) : (needsI v).length ≤ (v.w * v.h).toNat := by
  unfold needsI
  exact Nat.le_trans (List.length_filter_le _ _) (by rw [wants_len]; exact Nat.le_refl _)
theorem needs_ok (L : Int) (vs : List VV) (hv : ∀ v ∈ vs, VOk L v) (hl : vs.length ≤ 100) (r0 : R) (h0 : toD r0 = some (.list (viewsD vs))) : g__law_needs [r0] = .ok (.ol (vs.map fun v => rowsD (needsI v))) [.d (.list (viewsD vs))] := by
  have src : sList (cVar 0) [r0, .junk, .junk] = .ok (viewsD vs) [.d (.list (viewsD vs)), .junk, .junk] := by
    simp [sList, cVar, h0, Rs.bind, asL, toD]
  have inner : ∀ v ∈ vs, cComp (sList (cCall g__law_wants [.s 1])) [2] (gN 2) (cTb (cN neK [.s 2, .e (cTup [.c (.int 0), .c (.int 0), .c (.int 0)])])) (cVar 2) [.d (.list (viewsD vs)), .d v.d, .junk] = .ok (.ol ((needsI v).map rowD)) [.d (.list (viewsD vs)), .d v.d, .junk] := by
    intro v hm
    have w := wants_ok L v (hv v hm)
    have c : cCall g__law_wants [.s 1] [.d (.list (viewsD vs)), .d v.d, .junk] = .ok (.ol ((wantsI v).map rowD)) [.d (.list (viewsD vs)), .d v.d, .junk] := by
      simp only [cCall, cOps, Rs.bind, takeHs, jD, Option.map]
      simp [takeHs, w, putHs, jD]
    have src2 : sList (cCall g__law_wants [.s 1]) [.d (.list (viewsD vs)), .d v.d, .junk] = .ok ((wantsI v).map rowD) [.d (.list (viewsD vs)), .d v.d, .junk] := by
      unfold sList
      rw [c]; rfl
    have hwh := (hv v hm).wh
    rw [comp_ok (onRow fun r => !decide (r = W0)) id src2 rfl rfl rfl rfl (by rw [List.length_map, wants_len]; omega) (by
      intro d hd
      obtain ⟨r, hr, rfl⟩ := List.mem_map.mp hd
      have t0 : cTup [.c (.int 0), .c (.int 0), .c (.int 0)] [.d (.list (viewsD vs)), .d v.d, .d (rowD r)] = .ok (.d (rowD W0)) [.d (.list (viewsD vs)), .d v.d, .d (rowD r)] := (rfl)
      have t1 := v_se (k := neK) (i := 2) (ρ := [.d (.list (viewsD vs)), .d v.d, .d (rowD r)]) (x := rowD r) rfl rfl t0 rfl rfl (neK_row r W0)
      refine ⟨[.d (.list (viewsD vs)), .d v.d, .d (rowD r)], [.d (.list (viewsD vs)), .d v.d, .d (rowD r)], rfl, ?_, fun _ => rfl, fun _ => ⟨.d (rowD r), [.d (.list (viewsD vs)), .d v.d, .d (rowD r)], rfl, rfl, rfl⟩⟩
      rw [onRow_row]
      unfold cTb
      rw [t1]; rfl)]
    rw [filter_rows (fun r => !decide (r = W0)) _ id (onRow_row _) (fun _ => rfl)]
    rfl
  have c := comp_ok (own := [1]) (g := gN 1) (t := fYes) (f := cComp (sList (cCall g__law_wants [.s 1])) [2] (gN 2) (cTb (cN neK [.s 2, .e (cTup [.c (.int 0), .c (.int 0), .c (.int 0)])])) (cVar 2)) (fun _ => true)
    (fun d => match d with
      | .tuple [.int l, .int x, .int y, .int w, .int h] => rowsD (needsI ⟨l, x, y, w, h⟩)
      | _ => .none) src rfl rfl rfl rfl (by unfold viewsD; rw [List.length_map]; omega) (by
      intro d hd
      obtain ⟨v, hm, rfl⟩ := List.mem_map.mp hd
      exact ⟨[.d (.list (viewsD vs)), .d v.d, .junk], _, rfl, rfl, (fun z => by cases z), fun _ => ⟨_, _, inner v hm, rfl, rfl⟩⟩)
  refine (run_rt (ρ := [.d (.list (viewsD vs)), .junk, .junk]) rfl ?_).trans rfl
  show p__law_needs [r0, .junk, .junk] = _
  unfold p__law_needs
  refine ret_ok (c.trans ?_)
  rw [filter_yes]
  unfold viewsD
  rw [List.map_map]
  rfl
theorem ints_of_map (f : VV → Nat) (vs : List VV) : intsOf (vs.map fun v => PyData.int (f v)) = some (vs.map fun v => ((f v : Nat) : Int)) := by
  induction vs with
  | nil => rfl
  | cons v vs ih => show (intsOf (vs.map fun v => PyData.int (f v))).map _ = _; rw [ih]; rfl
theorem maxI_ge {ns : List Int} {n : Int} (h : n ∈ ns) : n ≤ maxI ns := by
  cases ns with
  | nil => cases h
  | cons m ns =>
    obtain ⟨k1, k2, k3⟩ := fold_mx ns m
    show n ≤ ns.foldl mx m
    rcases List.mem_cons.mp h with rfl | h
    · exact k1
    · exact k2 n h
theorem maxI_le {ns : List Int} {b : Int} (hb : 0 ≤ b) (h : ∀ n ∈ ns, n ≤ b) : maxI ns ≤ b := by
  cases ns with
  | nil => exact hb
  | cons m ns =>
    obtain ⟨k1, k2, k3⟩ := fold_mx ns m
    show ns.foldl mx m ≤ b
    rcases k3 with k3 | k3
    · rw [k3]; exact h m List.mem_cons_self
    · exact h _ (List.mem_cons_of_mem _ k3)
theorem room_ok (h : Hs) (ok : Hok h) (L : Int) (vs : List VV) (hv : ∀ v ∈ vs, VOk L v) (hl : vs.length ≤ 100) (hne : 1 ≤ vs.length) (r0 : R) (h0 : toD r0 = some (.list (viewsD vs))) (nj0 : isJ r0 = false) :
    ∃ r h', g__law_room [rH h, r0] = .ok (dI r) [rH h', .d (.list (viewsD vs))] ∧ 1 ≤ r ∧ r ≤ 28 ∧ (∀ v ∈ vs, ((needsI v).length : Int) ≤ r) ∧ Hok h' := by
  have nd := needs_ok L vs hv hl r0 h0
  have c : cCall g__law_needs [.s 1] [rH h, r0, .junk, .junk] = .ok (.ol (vs.map fun v => rowsD (needsI v))) [rH h, .d (.list (viewsD vs)), .junk, .junk] := by
    cases r0 with
    | d x => simp [cCall, cOps, Rs.bind, takeHs, jD, nd, putHs]
    | junk => cases nj0
    | _ => simp [cCall, cOps, Rs.bind, takeHs, isJ, nd, putHs]
  have src : sList (cCall g__law_needs [.s 1]) [rH h, r0, .junk, .junk] = .ok (vs.map fun v => rowsD (needsI v)) [rH h, .d (.list (viewsD vs)), .junk, .junk] := by
    unfold sList
    rw [c]; rfl
  have cc := comp_ok (own := [3]) (g := gN 3) (t := fYes) (f := cN lenK [.s 3]) (fun _ => true) (fun d => match d with
      | .list xs => .int xs.length
      | _ => .none) src rfl rfl rfl rfl (by rw [List.length_map]; omega) (by
      intro d hd
      obtain ⟨v, hm, rfl⟩ := List.mem_map.mp hd
      exact ⟨[rH h, .d (.list (viewsD vs)), .junk, .d (rowsD (needsI v))], _, rfl, rfl, (fun z => by cases z), fun _ => ⟨_, _, v_s (k := lenK) (i := 3) (x := rowsD (needsI v)) rfl rfl rfl, rfl, rfl⟩⟩)
  rw [filter_yes, List.map_map] at cc
  have e1 : (vs.map ((fun d => match d with
      | PyData.list xs => PyData.int xs.length
      | _ => PyData.none) ∘ fun v => rowsD (needsI v))) = vs.map fun v => PyData.int ((needsI v).length : Nat) := by
    refine List.map_congr_left fun v _ => ?_
    simp [rowsD]
  rw [e1] at cc
  have hmax : maxK [.list (vs.map fun v => PyData.int ((needsI v).length : Nat))] = some (dI (maxI (vs.map fun v => ((needsI v).length : Int)))) := by
    unfold maxK
    simp only [ints_of_map, Option.bind_some]
    rw [if_neg]
    intro z
    have : vs = [] := by simpa using z
    rw [this] at hne; simp at hne
  have s1 := cSet_ok (i := 2) (v_e cc rfl hmax)
  generalize hM : maxI (vs.map fun v => ((needsI v).length : Int)) = M at s1
  have hM0 : 0 ≤ M ∧ M ≤ 16 := by
    constructor
    · cases vs with
      | nil => simp at hne
      | cons v vs =>
        have := maxI_ge (ns := ((v :: vs).map fun v => ((needsI v).length : Int))) (n := ((needsI v).length : Int)) (by simp)
        rw [hM] at this
        omega
    · rw [← hM]
      refine maxI_le (by decide) fun n hn => ?_
      obtain ⟨v, hm, rfl⟩ := List.mem_map.mp hn
      have := needs_len v
      have := (hv v hm).wh
      omega
  obtain ⟨r1, h1, c1, a1, b1, k1⟩ := nx_c h ok 3 (by omega) [.d (.list (viewsD vs)), dI M, .junk]
  obtain ⟨z, hz, q1⟩ : ∃ z, (1 ≤ z ∧ z ≤ 13) ∧ cN ixK [.e (cFz (cLst [.c (.int 1), .c (.int 4), .c (.int 13)])), .e (cCall g__law_next [.s 0, .c (.int 3)])] [rH h, .d (.list (viewsD vs)), dI M, .junk] = .ok (dI z) [rH h1, .d (.list (viewsD vs)), dI M, .junk] := by
    have f0 : cFz (cLst [.c (.int 1), .c (.int 4), .c (.int 13)]) [rH h, .d (.list (viewsD vs)), dI M, .junk] = .ok (.d (.list [.int 1, .int 4, .int 13])) [rH h, .d (.list (viewsD vs)), dI M, .junk] := (rfl)
    have : r1 = 0 ∨ r1 = 1 ∨ r1 = 2 := by omega
    rcases this with rfl | rfl | rfl
    · exact ⟨1, by decide, v_ee (k := ixK) f0 rfl c1 rfl rfl⟩
    · exact ⟨4, by decide, v_ee (k := ixK) f0 rfl c1 rfl rfl⟩
    · exact ⟨13, by decide, v_ee (k := ixK) f0 rfl c1 rfl rfl⟩
  obtain ⟨r2, h2, c2, a2, b2, k2⟩ := nx_e h1 h k1 z (by omega) [.d (.list (viewsD vs)), dI M, .junk] [.d (.list (viewsD vs)), dI M, .junk] _ q1
  have mm := mx_ge 1 (M + r2)
  refine ⟨mx 1 (M + r2), h2, ?_, by omega, by omega, fun v hm => ?_, k2⟩
  · refine (run_rt (ρ := [rH h2, .d (.list (viewsD vs)), dI M, .junk]) rfl ?_).trans rfl
    show p__law_room [rH h, r0, .junk, .junk] = _
    unfold p__law_room
    rw [seq_nx s1]
    exact ret_ok (v_ce (k := maxK) (v_se (k := addK) (i := 2) (x := .int M) rfl rfl c2 rfl rfl rfl) rfl rfl)
  · have := maxI_ge (ns := (vs.map fun v => ((needsI v).length : Int))) (n := ((needsI v).length : Int)) (List.mem_map.mpr ⟨v, hm, rfl⟩)
    rw [hM] at this
    omega
end TL
set_option linter.all false
set_option maxRecDepth 100000
set_option maxHeartbeats 4000000
namespace TL
open PySem PySem.Spec PyProof.Rows L2 TP
variable [TabsOf]
abbrev dB (b : Bool) : R := .d (.bool b)
theorem chain_t {p p' : Int → Int → Bool} {f g h : EF} {i j l : Int} {ρ ρ1 ρ2 ρ3 : List R} (hf : f ρ = .ok (dI i) ρ1) (hg : g ρ1 = .ok (dI j) ρ2) (hp : p i j = true) (hh : h ρ2 = .ok (dI l) ρ3) : cChain p p' f g h ρ = .ok (dB (p' j l)) ρ3 := by
  simp [cChain, hf, hg, hh, Rs.bind, asI, hp]
theorem chain_f {p p' : Int → Int → Bool} {f g h : EF} {i j : Int} {ρ ρ1 ρ2 : List R} (hf : f ρ = .ok (dI i) ρ1) (hg : g ρ1 = .ok (dI j) ρ2) (hp : p i j = false) : cChain p p' f g h ρ = .ok (dB false) ρ2 := by
  simp [cChain, hf, hg, Rs.bind, asI, hp]
theorem chain_b {p p' : Int → Int → Bool} {f g h : EF} {i j l : Int} {ρ : List R} (hf : f ρ = .ok (dI i) ρ) (hg : g ρ = .ok (dI j) ρ) (hh : h ρ = .ok (dI l) ρ) : cChain p p' f g h ρ = .ok (dB (p i j && p' j l)) ρ := by
  cases e : p i j with
  | true => exact chain_t hf hg e hh
  | false => exact chain_f hf hg e
theorem and_t {f g : EF} {ρ ρ1 : List R} (hf : f ρ = .ok (dB true) ρ1) : cAnd f g ρ = g ρ1 := by simp [cAnd, hf, Rs.bind, asB]
theorem and_f {f g : EF} {ρ ρ1 : List R} (hf : f ρ = .ok (dB false) ρ1) : cAnd f g ρ = .ok (dB false) ρ1 := by simp [cAnd, hf, Rs.bind, asB]
theorem and_b {f g : EF} {ρ : List R} {a b : Bool} (hf : f ρ = .ok (dB a) ρ) (hg : g ρ = .ok (dB b) ρ) : cAnd f g ρ = .ok (dB (a && b)) ρ := by
  cases a with
  | true => rw [and_t hf, hg]; rfl
  | false => rw [and_f hf]; rfl
theorem tb_ok {f : EF} {ρ ρ1 : List R} {b : Bool} (hf : f ρ = .ok (dB b) ρ1) : cTb f ρ = .ok b ρ1 := by simp [cTb, hf, Rs.bind, asB]
theorem not_ok {f : TF} {ρ ρ1 : List R} {b : Bool} (hf : f ρ = .ok b ρ1) : fNot f ρ = .ok (!b) ρ1 := by simp [fNot, hf, Rs.bind]
theorem for_t {f g : TF} {ρ ρ1 : List R} (hf : f ρ = .ok true ρ1) : fOr f g ρ = .ok true ρ1 := by simp [fOr, hf, Rs.bind]
theorem for_f {f g : TF} {ρ ρ1 : List R} (hf : f ρ = .ok false ρ1) : fOr f g ρ = g ρ1 := by simp [fOr, hf, Rs.bind]
theorem for_b {f g : TF} {ρ : List R} {a b : Bool} (hf : f ρ = .ok a ρ) (hg : g ρ = .ok b ρ) : fOr f g ρ = .ok (a || b) ρ := by
  cases a with
  | true => rw [for_t hf]; rfl
  | false => rw [for_f hf, hg]; rfl
theorem fand_t {f g : TF} {ρ ρ1 : List R} (hf : f ρ = .ok true ρ1) : fAnd f g ρ = g ρ1 := by simp [fAnd, hf, Rs.bind]
theorem fand_f {f g : TF} {ρ ρ1 : List R} (hf : f ρ = .ok false ρ1) : fAnd f g ρ = .ok false ρ1 := by simp [fAnd, hf, Rs.bind]
theorem var_d {i : Nat} {x : PyData} {ρ : List R} (h : ρ[i]? = some (.d x)) : cVar i ρ = .ok (.d x) ρ := by
  have w : ρ.set i (.d x) = ρ := set_self h
  simp [cVar, h, toD, w]
theorem sides_at {l : Int} (h : 0 ≤ l ∧ l < 6) : ixK [c_SIDES, .int l] = some (dI (sideI l)) := by
  rcases lvl_cases h with rfl | rfl | rfl | rfl | rfl | rfl <;> rfl
theorem side_ix {ρ : List R} {i : Nat} {l : Int} (h : 0 ≤ l ∧ l < 6) (hi : ρ[i]? = some (dI l)) : cN ixK [.c c_SIDES, .s i] ρ = .ok (dI (sideI l)) ρ := v_cs hi rfl (sides_at h)
/-! ### is_square -/
def isSq (L : Int) : List Int → Bool
  | [l, x, y] => decide (0 ≤ l ∧ l < L ∧ 0 ≤ x ∧ x < sideI l ∧ 0 ≤ y ∧ y < sideI l)
  | _ => false
theorem is_square_ok (L l x y : Int) (hL : L ≤ 6) : g_is_square [dI L, .d (rowD [l, x, y])] = .ok (dB (isSq L [l, x, y])) [dI L, .d (rowD [l, x, y])] := by
  refine (run_rt (ρ := [dI L, .d (rowD [l, x, y]), dI l, dI x, dI y]) rfl ?_).trans rfl
  show p_is_square [dI L, .d (rowD [l, x, y]), .junk, .junk, .junk] = _
  unfold p_is_square
  have s1 : cAsg (cVar 1) (gT [gN 2, gN 3, gN 4]) [dI L, .d (rowD [l, x, y]), .junk, .junk, .junk] = .ok .nx [dI L, .d (rowD [l, x, y]), dI l, dI x, dI y] := (rfl)
  rw [seq_nx s1]
  refine ret_ok ?_
  have c1 := chain_b (p := fun i j => decide (i ≤ j)) (p' := fun i j => decide (i < j)) (f := cC (.int 0)) (g := cVar 2) (h := cVar 0) (ρ := [dI L, .d (rowD [l, x, y]), dI l, dI x, dI y]) (i := 0) (j := l) (l := L) rfl rfl rfl
  by_cases hl : 0 ≤ l ∧ l < L
  · have h6 : 0 ≤ l ∧ l < 6 := by omega
    have c2 := chain_b (p := fun i j => decide (i ≤ j)) (p' := fun i j => decide (i < j)) (f := cC (.int 0)) (g := cVar 3) (h := cN ixK [.c c_SIDES, .s 2]) (ρ := [dI L, .d (rowD [l, x, y]), dI l, dI x, dI y]) (i := 0) (j := x) rfl rfl (side_ix h6 rfl)
    have c3 := chain_b (p := fun i j => decide (i ≤ j)) (p' := fun i j => decide (i < j)) (f := cC (.int 0)) (g := cVar 4) (h := cN ixK [.c c_SIDES, .s 2]) (ρ := [dI L, .d (rowD [l, x, y]), dI l, dI x, dI y]) (i := 0) (j := y) rfl rfl (side_ix h6 rfl)
    rw [and_b c1 (and_b c2 c3)]
    simp [isSq, hl.1, hl.2, Bool.and_assoc]
  · have e : (decide (0 ≤ l) && decide (l < L)) = false := by simpa using hl
    rw [e] at c1
    rw [and_f c1]
    have : isSq L [l, x, y] = false := by
      unfold isSq
      simp only [decide_eq_false_iff_not]
      omega
    rw [this]
/-! ### need_levels, need_room -/
theorem need_levels_ok (L : Int) (h : 1 ≤ L ∧ L ≤ 6) : g_need_levels [dI L] = .ok (.d .none) [dI L] := by
  refine (run_nx (ρ := [dI L]) rfl ?_).trans rfl
  show p_need_levels [dI L] = _
  unfold p_need_levels
  have c := chain_b (p := fun i j => decide (i ≤ j)) (p' := fun i j => decide (i ≤ j)) (f := cC (.int 1)) (g := cVar 0) (h := cC c_MOST_LEVELS) (ρ := [dI L]) (i := 1) (j := L) (l := 6) rfl rfl rfl
  have e : (decide (1 ≤ L) && decide (L ≤ 6)) = true := by simpa using h
  rw [e] at c
  exact ite_nx (not_ok (tb_ok c))
theorem need_room_ok (L : Int) (h : 1 ≤ L ∧ L ≤ 40) : g_need_room [dI L] = .ok (.d .none) [dI L] := by
  refine (run_nx (ρ := [dI L]) rfl ?_).trans rfl
  show p_need_room [dI L] = _
  unfold p_need_room
  have c := chain_b (p := fun i j => decide (i ≤ j)) (p' := fun i j => decide (i ≤ j)) (f := cC (.int 1)) (g := cVar 0) (h := cC c_MOST_ROOM) (ρ := [dI L]) (i := 1) (j := L) (l := 40) rfl rfl rfl
  have e : (decide (1 ≤ L) && decide (L ≤ 40)) = true := by simpa using h
  rw [e] at c
  exact ite_nx (not_ok (tb_ok c))
/-! ### is_view, need_view -/
theorem is_view_ok (L : Int) (hL : L ≤ 6) (v : VV) (hv : VOk L v) : g_is_view [dI L, .d v.d] = .ok (dB true) [dI L, .d v.d] := by
  obtain ⟨l, x, y, wd, ht⟩ := v
  obtain ⟨a0, a1, a2, a3, a4, a5, a6, a7, a8⟩ := hv
  simp only at a0 a1 a2 a3 a4 a5 a6 a7 a8
  have hp : 0 ≤ wd * ht := Int.mul_nonneg (by omega) (by omega)
  have hw16 : wd ≤ 16 := by
    have : wd * 1 ≤ wd * ht := Int.mul_le_mul_of_nonneg_left (by omega) (by omega)
    omega
  generalize hρ : ([dI L, .d (VV.d ⟨l, x, y, wd, ht⟩), dI l, dI x, dI y, dI wd, dI ht] : List R) = ρ
  have g0 : ρ[0]? = some (dI L) := by rw [← hρ]; rfl
  have g2 : ρ[2]? = some (dI l) := by rw [← hρ]; rfl
  have g3 : ρ[3]? = some (dI x) := by rw [← hρ]; rfl
  have g4 : ρ[4]? = some (dI y) := by rw [← hρ]; rfl
  have g5 : ρ[5]? = some (dI wd) := by rw [← hρ]; rfl
  have g6 : ρ[6]? = some (dI ht) := by rw [← hρ]; rfl
  refine (run_rt (ρ := ρ) rfl ?_).trans (by rw [← hρ]; rfl)
  show p_is_view [dI L, .d (VV.d ⟨l, x, y, wd, ht⟩), .junk, .junk, .junk, .junk, .junk] = _
  unfold p_is_view
  have s1 : cAsg (cVar 1) (gT [gN 2, gN 3, gN 4, gN 5, gN 6]) [dI L, .d (VV.d ⟨l, x, y, wd, ht⟩), .junk, .junk, .junk, .junk, .junk] = .ok .nx ρ := by rw [← hρ]; rfl
  rw [seq_nx s1]
  have c := chain_b (p := fun i j => decide (i ≤ j)) (p' := fun i j => decide (i < j)) (f := cC (.int 0)) (g := cVar 2) (h := cVar 0) (ρ := ρ) (i := 0) (j := l) (l := L) rfl (var_d g2) (var_d g0)
  have e : (decide (0 ≤ l) && decide (l < L)) = true := by simp; omega
  rw [e] at c
  have t1 : ltK [.int x, .int 0] = some (dB false) := by show some (dB (decide (x < 0))) = _; rw [decide_eq_false (by omega)]
  have t2 : ltK [.int y, .int 0] = some (dB false) := by show some (dB (decide (y < 0))) = _; rw [decide_eq_false (by omega)]
  have t3 : ltK [.int wd, .int 1] = some (dB false) := by show some (dB (decide (wd < 1))) = _; rw [decide_eq_false (by omega)]
  have t4 : ltK [.int ht, .int 1] = some (dB false) := by show some (dB (decide (ht < 1))) = _; rw [decide_eq_false (by omega)]
  have t5 : gtK [.int (wd * ht), c_MOST_WANTED] = some (dB false) := by show some (dB (decide (16 < wd * ht))) = _; rw [decide_eq_false (by omega)]
  have m : cN mulK [.s 5, .s 6] ρ = .ok (dI (wd * ht)) ρ := v_ss g5 rfl g6 rfl (mulK_l (by unfold small; simp only [Bool.and_eq_true, decide_eq_true_eq]; omega))
  rw [seq_nx (ite_nx ((for_f (not_ok (tb_ok c))).trans ((for_f (tb_ok (v_sc g3 rfl t1))).trans ((for_f (tb_ok (v_sc g4 rfl t2))).trans ((for_f (tb_ok (v_sc g5 rfl t3))).trans ((for_f (tb_ok (v_sc g6 rfl t4))).trans (tb_ok (v_ec m rfl t5))))))))]
  have h6 : 0 ≤ l ∧ l < 6 := by omega
  have u1 : leK [.int (x + wd), .int (sideI l)] = some (dB true) := by show some (dB (decide (x + wd ≤ sideI l))) = _; rw [decide_eq_true (by omega)]
  have u2 : leK [.int (y + ht), .int (sideI l)] = some (dB true) := by show some (dB (decide (y + ht ≤ sideI l))) = _; rw [decide_eq_true (by omega)]
  refine ret_ok ((and_t (v_ee (k := leK) (v_ss (k := addK) g3 rfl g5 rfl rfl) rfl (side_ix h6 g2) rfl u1)).trans (v_ee (k := leK) (v_ss (k := addK) g4 rfl g6 rfl rfl) rfl (side_ix h6 g2) rfl u2))
theorem call_ss {g : GF} {i j : Nat} {x y : PyData} {ρ : List R} {q : R} (hi : ρ[i]? = some (.d x)) (hj : ρ[j]? = some (.d y)) (e : g [.d x, .d y] = .ok q [.d x, .d y]) : cCall g [.s i, .s j] ρ = .ok q ρ := by
  have w1 : ρ.set i (.d x) = ρ := set_self hi
  have w2 : ρ.set j (.d y) = ρ := set_self hj
  simp [cCall, cOps, hi, hj, isJ, Rs.bind, takeHs, e, putHs, w1, w2]
theorem call_s {g : GF} {i : Nat} {x : PyData} {ρ : List R} {q : R} (hi : ρ[i]? = some (.d x)) (e : g [.d x] = .ok q [.d x]) : cCall g [.s i] ρ = .ok q ρ := by
  have w1 : ρ.set i (.d x) = ρ := set_self hi
  simp [cCall, cOps, hi, isJ, Rs.bind, takeHs, e, putHs, w1]
theorem need_view_ok (L : Int) (hL : L ≤ 6) (v : VV) (hv : VOk L v) : g_need_view [dI L, .d v.d] = .ok (.d .none) [dI L, .d v.d] := by
  refine (run_nx (ρ := [dI L, .d v.d]) rfl ?_).trans rfl
  show p_need_view [dI L, .d v.d] = _
  unfold p_need_view
  exact ite_nx (not_ok (tb_ok (call_ss rfl rfl (is_view_ok L hL v hv))))
end TL
set_option linter.all false
set_option maxRecDepth 100000
set_option maxHeartbeats 4000000
namespace TL
open PySem PySem.Spec PyProof.Rows L2 TP
variable [TabsOf]
theorem src_rng2_se {i : Nat} {a b : Int} {f : EF} {ρ : List R} (hi : ρ[i]? = some (dI a)) (hf : f ρ = .ok (dI b) ρ) (ha : -1000000 ≤ a ∧ a < 1000000) (hb : -1000000 ≤ b ∧ b < 1000000) : sRng rng2 [.s i, .e f] ρ = .ok (rngD a (b - a).toNat) ρ := by
  have : rng2 [.int a, .int b] = some (a, (b - a).toNat) := if_pos (by omega)
  simp [sRng, cOps, hi, jD, hf, Rs.bind, hviews, hview, vw, this]
/-- xs.extend(ys) -/
theorem ext_ok {i : Nat} {f : EF} {ρ ρ1 : List R} {xs ys : List PyData} (h0 : ρ[i]? = some (.ol xs)) (hf : f ρ = .ok (.ol ys) ρ1) (h1 : ρ1[i]? = some (.ol xs)) (hl : xs.length + ys.length ≤ 100000) : cMut i [] isList extendM [.e f] ρ = .ok (.d .none) (ρ1.set i (.ol (xs ++ ys))) := by
  have j : isJ (R.ol xs) = false := (rfl)
  simp [cMut, getP, h0, isList, cOps, hf, Rs.bind, h1, hdArgs, j, extendM, hl, setP]
def colI (l x y : Int) (m : Nat) : List (List Int) := (List.range m).map fun (k : Nat) => [l, x, y + (k : Int)]
def wantN (l x y : Int) (h : Nat) (n : Nat) : List (List Int) := (List.range (n * h)).map fun (k : Nat) => [l, x + ((k / h : Nat) : Int), y + ((k % h : Nat) : Int)]
theorem wantN_succ (l x y : Int) (h : Nat) (hh : 0 < h) (n : Nat) : wantN l x y h (n + 1) = wantN l x y h n ++ colI l (x + (n : Int)) y h := by
  unfold wantN colI
  rw [Nat.succ_mul, List.range_add, List.map_append, List.map_map]
  congr 1
  refine List.map_congr_left fun k hk => ?_
  have hk := List.mem_range.mp hk
  have e1 : (n * h + k) / h = n := by
    rw [Nat.mul_comm, Nat.mul_add_div hh, Nat.div_eq_of_lt hk]; rfl
  have e2 : (n * h + k) % h = k := by
    rw [Nat.mul_comm, Nat.mul_add_mod, Nat.mod_eq_of_lt hk]
  simp only [Function.comp, e1, e2]
theorem wantN_len (l x y : Int) (h n : Nat) : (wantN l x y h n).length = n * h := by unfold wantN; simp
theorem colI_len (l x y : Int) (m : Nat) : (colI l x y m).length = m := by unfold colI; simp
theorem wantN_eq (L : Int) (v : VV) (hv : VOk L v) : wantN v.l v.x v.y v.h.toNat v.w.toNat = wantsI v := by
  obtain ⟨l, x, y, wd, ht⟩ := v
  have hvw := hv.w0; have hvh := hv.h0
  simp only at hvw hvh
  obtain ⟨w, rfl⟩ := Int.eq_ofNat_of_zero_le (show 0 ≤ wd by omega)
  obtain ⟨h, rfl⟩ := Int.eq_ofNat_of_zero_le (show 0 ≤ ht by omega)
  unfold wantN wantsI
  have e : ((w : Int) * (h : Int)).toNat = w * h := by rw [← Int.natCast_mul]; rfl
  simp only [e, Int.toNat_natCast]
  refine List.map_congr_left fun k _ => ?_
  simp
theorem wanted_ok (L : Int) (hL : L ≤ 6) (v : VV) (hv : VOk L v) : g_wanted_of [.d v.d] = .ok (.ol ((wantsI v).map rowD)) [.d v.d] := by
  rw [← wantN_eq L v hv]
  obtain ⟨l, x, y, wd, ht⟩ := v
  obtain ⟨a0, a1, a2, a3, a4, a5, a6, a7, a8⟩ := hv
  simp only at a0 a1 a2 a3 a4 a5 a6 a7 a8
  have sp := side_pos (l := l) (by omega)
  obtain ⟨w, rfl⟩ := Int.eq_ofNat_of_zero_le (show 0 ≤ wd by omega)
  obtain ⟨h, rfl⟩ := Int.eq_ofNat_of_zero_le (show 0 ≤ ht by omega)
  simp only [Int.toNat_natCast]
  have hwh : w * h ≤ 16 := by
    have : ((w * h : Nat) : Int) ≤ 16 := by rw [Int.natCast_mul]; first | exact a4 | exact a5 | exact a6 | exact a7 | exact a8
    omega
  generalize hv : VV.d ⟨l, x, y, (w : Int), (h : Int)⟩ = vd
  have src : sRng rng2 [.s 2, .e (cN addK [.s 2, .s 4])] [.d vd, dI l, dI x, dI y, dI w, dI h, .ol [], .junk, .junk] = .ok (rngD x (x + w - x).toNat) [.d vd, dI l, dI x, dI y, dI w, dI h, .ol [], .junk, .junk] :=
    src_rng2_se rfl (v_ss (k := addK) (i := 2) (j := 4) (x := .int x) (y := .int w) rfl rfl rfl rfl rfl) (by omega) (by omega)
  have hw : (x + (w : Int) - x).toNat = w := by omega
  rw [hw] at src
  obtain ⟨ρ', e3, hJ⟩ := forL_inv (g := gN 7) (s := cDrop (cMut 6 [] isList extendM [.e (cComp (sRng rng2 [.s 3, .e (cN addK [.s 3, .s 5])]) [8] (gN 8) (fYes) (cTup [.e (cVar 1), .e (cVar 7), .e (cVar 8)]))]))
    (fun i ρ => i ≤ w ∧ ∃ r, ρ = [.d vd, dI l, dI x, dI y, dI w, dI h, .ol ((wantN l x y h i).map rowD), r, .junk]) (ds := rngD x w) (i := 0) (ρ := [.d vd, dI l, dI x, dI y, dI w, dI h, .ol [], .junk, .junk]) ⟨by omega, .junk, by simp [wantN]⟩ (by
      rintro j d ρ hj ⟨hi, r, rfl⟩
      obtain ⟨rfl, hjn⟩ := rng_at hj
      rw [Nat.zero_add] at *
      generalize hρ : ([.d vd, dI l, dI x, dI y, dI w, dI h, .ol ((wantN l x y h j).map rowD), dI (x + (j : Int)), .junk] : List R) = ρ
      have src2 : sRng rng2 [.s 3, .e (cN addK [.s 3, .s 5])] ρ = .ok (rngD y (y + h - y).toNat) ρ :=
        src_rng2_se (by rw [← hρ]; rfl) (v_ss (k := addK) (i := 3) (j := 5) (x := .int y) (y := .int h) (by rw [← hρ]; rfl) rfl (by rw [← hρ]; rfl) rfl rfl) (by omega) (by omega)
      have hh : (y + (h : Int) - y).toNat = h := by omega
      rw [hh] at src2
      have c := comp_ok (own := [8]) (g := gN 8) (t := fYes) (f := cTup [.e (cVar 1), .e (cVar 7), .e (cVar 8)]) (B := ρ) (fun _ => true) (fun d => match d with
        | .int k => rowD [l, x + (j : Int), k]
        | _ => .none) src2 (by rw [← hρ]; rfl) (by rw [← hρ]; rfl) (by rw [← hρ]; rfl) (by rw [← hρ]; rfl) (by rw [rng_len]; omega) (by
          intro d hd
          obtain ⟨j2, hj2⟩ := List.mem_iff_getElem?.mp hd
          obtain ⟨rfl, hjn2⟩ := rng_at hj2
          rw [← hρ]
          exact ⟨_, _, rfl, rfl, (fun z => by cases z), fun _ => ⟨.d (rowD [l, x + (j : Int), y + (j2 : Int)]), _, rfl, rfl, rfl⟩⟩)
      have e4 : ((rngD y h).filter fun _ => true).map (fun d => match d with
        | .int k => rowD [l, x + (j : Int), k]
        | _ => .none) = (colI l (x + (j : Int)) y h).map rowD := by
        rw [filter_yes]
        unfold colI rngD
        rw [List.map_map, List.map_map]
        rfl
      rw [e4] at c
      have hln : j * h ≤ 16 := Nat.le_trans (Nat.mul_le_mul_right h (by omega)) hwh
      have hh16 : h ≤ 16 := Nat.le_trans (Nat.le_mul_of_pos_left h (show 0 < w by omega)) hwh
      have ex := ext_ok (i := 6) (xs := (wantN l x y h j).map rowD) (by rw [← hρ]; rfl) c (by rw [← hρ]; rfl) (by rw [List.length_map, List.length_map, wantN_len, colI_len]; omega)
      refine ⟨ρ, _, by rw [← hρ]; rfl, Or.inl (drop_ok ex), by omega, dI (x + (j : Int)), ?_⟩
      rw [← hρ, wantN_succ l x y h (by omega), List.map_append]
      rfl)
  obtain ⟨_, r, rfl⟩ := hJ
  rw [rng_len, Nat.zero_add] at *
  refine (run_rt (ρ := [.d vd, dI l, dI x, dI y, dI w, dI h, .junk, r, .junk]) rfl ?_).trans rfl
  show p_wanted_of [.d vd, .junk, .junk, .junk, .junk, .junk, .junk, .junk, .junk] = _
  unfold p_wanted_of
  have s1 : cAsg (cVar 0) (gT [gN 1, gN 2, gN 3, gN 4, gN 5]) [.d vd, .junk, .junk, .junk, .junk, .junk, .junk, .junk, .junk] = .ok .nx [.d vd, dI l, dI x, dI y, dI w, dI h, .junk, .junk, .junk] := by rw [← hv]; rfl
  have s2 : cSet 6 (cLst []) [.d vd, dI l, dI x, dI y, dI w, dI h, .junk, .junk, .junk] = .ok .nx [.d vd, dI l, dI x, dI y, dI w, dI h, .ol [], .junk, .junk] := (rfl)
  rw [seq_nx s1, seq_nx s2, seq_nx ((for_ok src).trans e3)]
  simp [cRet, cMv, Rs.bind, isJ]
theorem call_s' {g : GF} {i : Nat} {x : PyData} {ρ : List R} {q : R} (hi : ρ[i]? = some (.d x)) (e : g [.d x] = .ok q [.d x]) : cCall g [.s i] ρ = .ok q ρ := call_s hi e
theorem list_of {f : EF} {ρ ρ1 : List R} {ds : List PyData} (h : f ρ = .ok (.ol ds) ρ1) : sList f ρ = .ok ds ρ1 := by
  unfold sList; rw [h]; rfl
theorem needs_of_ok (L : Int) (hL : L ≤ 6) (v : VV) (hv : VOk L v) : g_needs_of [.d v.d] = .ok (.ol ((needsI v).map rowD)) [.d v.d] := by
  have hwh := hv.wh
  have c := comp_ok (src := sList (cCall g_wanted_of [.s 0])) (own := [1]) (g := gN 1) (t := cTb (cN neK [.s 1, .c c_WHOLE])) (f := cVar 1) (ρ := [.d v.d, .junk]) (onRow fun r => !decide (r = W0)) id (list_of (call_s rfl (wanted_ok L hL v hv))) rfl rfl rfl rfl (by rw [List.length_map, wants_len]; omega) (by
      intro d hd
      obtain ⟨r, hr, rfl⟩ := List.mem_map.mp hd
      refine ⟨[.d v.d, .d (rowD r)], [.d v.d, .d (rowD r)], rfl, ?_, fun _ => rfl, fun _ => ⟨.d (rowD r), [.d v.d, .d (rowD r)], rfl, rfl, rfl⟩⟩
      rw [onRow_row]
      exact tb_ok (v_sc (k := neK) (i := 1) (y := c_WHOLE) rfl rfl (neK_row r W0)))
  rw [filter_rows (fun r => !decide (r = W0)) _ id (onRow_row _) (fun _ => rfl)] at c
  refine (run_rt (ρ := [.d v.d, .junk]) rfl ?_).trans rfl
  show p_needs_of [.d v.d, .junk] = _
  unfold p_needs_of
  exact ret_ok c
end TL
set_option linter.all false
set_option maxRecDepth 100000
set_option maxHeartbeats 4000000
namespace TL
open PySem PySem.Spec PyProof.Rows L2 TP
variable [TabsOf]
/-- [x for x in rows if p x] -/
theorem rowsf {src : RF} {t : TF} {i : Nat} {ρ B : List R} {rs : List (List Int)} (p : List Int → Bool) (hs : src ρ = .ok (rs.map rowD) ρ) (hso : slotOk ρ[i]? = true) (hB : ρ.set i .junk = B) (hback : backR ρ B [i] = ρ) (hin : i < ρ.length) (hl : rs.length ≤ 100000)
    (h : ∀ r ∈ rs, t (ρ.set i (.d (rowD r))) = .ok (p r) (ρ.set i (.d (rowD r)))) : cComp src [i] (gN i) t (cVar i) ρ = .ok (.ol ((rs.filter p).map rowD)) ρ := by
  have c := comp_ok (src := src) (own := [i]) (g := gN i) (t := t) (f := cVar i) (ρ := ρ) (ρ1 := ρ) (B := B) (onRow p) id hs (by simpa using hso) (by rw [← hB]; rfl) (by rw [← hB]; simp [wipeR]) hback (by rw [List.length_map]; exact hl) (by
    intro d hd
    obtain ⟨r, hr, rfl⟩ := List.mem_map.mp hd
    have hset : B.set i (.d (rowD r)) = ρ.set i (.d (rowD r)) := by rw [← hB, List.set_set]
    refine ⟨ρ.set i (.d (rowD r)), ρ.set i (.d (rowD r)), by rw [← hset]; rfl, ?_, fun _ => ?_, fun _ => ⟨.d (rowD r), ρ.set i (.d (rowD r)), var_d (by simp [hin]), rfl, ?_⟩⟩
    · rw [onRow_row]; exact h r hr
    · show (ρ.set i (.d (rowD r))).set i .junk = B
      rw [List.set_set, hB]
    · show (ρ.set i (.d (rowD r))).set i .junk = B
      rw [List.set_set, hB])
  rw [filter_rows p _ id (onRow_row _) (fun _ => rfl)] at c
  exact c
theorem filter_any {α : Type} [DecidableEq α] (p : α → Bool) (l : List α) : (!decide (l.filter p = [])) = l.any p := by
  by_cases h : l.filter p = []
  · have : l.any p = false := by
      rw [List.any_eq_false]
      intro x hx
      exact List.filter_eq_nil_iff.mp h x hx
    rw [this]; simp [h]
  · have : l.any p = true := by
      rw [List.any_eq_true]
      obtain ⟨x, hx⟩ := List.exists_mem_of_ne_nil _ h
      rw [List.mem_filter] at hx
      exact ⟨x, hx.1, hx.2⟩
    rw [this]; simp [h]
/-- [x for x in rows if p x] != [] -/
theorem rowsAny {src : RF} {t : TF} {i : Nat} {ρ B : List R} {rs : List (List Int)} (p : List Int → Bool) (hs : src ρ = .ok (rs.map rowD) ρ) (hso : slotOk ρ[i]? = true) (hB : ρ.set i .junk = B) (hback : backR ρ B [i] = ρ) (hin : i < ρ.length) (hl : rs.length ≤ 100000)
    (h : ∀ r ∈ rs, t (ρ.set i (.d (rowD r))) = .ok (p r) (ρ.set i (.d (rowD r)))) : cTb (cN neK [.e (cComp src [i] (gN i) t (cVar i)), .e (cLst [])]) ρ = .ok (rs.any p) ρ := by
  have c := rowsf p hs hso hB hback hin hl h
  have n := neK_rows (rs.filter p) []
  rw [show decide (rs.filter p = []) = decide (rs.filter p = []) from rfl, filter_any] at n
  exact tb_ok (v_ee c rfl (show cLst [] ρ = .ok (.ol []) ρ from rfl) rfl n)
/-! ### need_way -/
theorem need_way_ok (L room : Int) (hL : 1 ≤ L ∧ L ≤ 6) (hr : 1 ≤ room ∧ room ≤ 40) (vs : List VV) (hv : ∀ v ∈ vs, VOk L v) (hl : 1 ≤ vs.length ∧ vs.length ≤ 12) (hn : ∀ v ∈ vs, ((needsI v).length : Int) ≤ room) :
    g_need_way [dI L, dI room, .d (.list (viewsD vs))] = .ok (.d .none) [dI L, dI room, .d (.list (viewsD vs))] := by
  have lenv : (viewsD vs).length = vs.length := by unfold viewsD; simp
  have s1 : cDrop (cCall g_need_levels [.s 0]) [dI L, dI room, .d (.list (viewsD vs)), .junk] = .ok .nx [dI L, dI room, .d (.list (viewsD vs)), .junk] := drop_ok (call_s rfl (need_levels_ok L hL))
  have s2 : cDrop (cCall g_need_room [.s 1]) [dI L, dI room, .d (.list (viewsD vs)), .junk] = .ok .nx [dI L, dI room, .d (.list (viewsD vs)), .junk] := drop_ok (call_s rfl (need_room_ok room hr))
  have c := chain_b (p := fun i j => decide (i ≤ j)) (p' := fun i j => decide (i ≤ j)) (f := cC (.int 1)) (g := cN lenK [.s 2]) (h := cC c_MOST_VIEWS) (ρ := [dI L, dI room, .d (.list (viewsD vs)), .junk]) (i := 1) (j := ((viewsD vs).length : Nat)) (l := 12) rfl (v_s (k := lenK) (i := 2) rfl rfl rfl) rfl
  have e : (decide ((1 : Int) ≤ ((viewsD vs).length : Nat)) && decide ((((viewsD vs).length : Nat) : Int) ≤ 12)) = true := by rw [lenv]; simp; omega
  rw [e] at c
  have s3 := ite_nx (s := cRaise 5) (not_ok (tb_ok c))
  obtain ⟨ρ', e3, hJ⟩ := forL_inv (g := gN 3) (s := cDrop (cCall g_need_view [.s 0, .s 3])) (fun i ρ => ∃ d, ρ = [dI L, dI room, .d (.list (viewsD vs)), d] ∧ slotOk (some d) = true) (ds := viewsD vs) (i := 0) (ρ := [dI L, dI room, .d (.list (viewsD vs)), .junk]) ⟨.junk, rfl, rfl⟩ (by
    rintro j d ρ hj ⟨d0, rfl, _⟩
    obtain ⟨v, hm, rfl⟩ := List.mem_map.mp (List.mem_of_getElem? hj)
    exact ⟨_, [dI L, dI room, .d (.list (viewsD vs)), .d v.d], rfl, Or.inl (drop_ok (call_ss rfl rfl (need_view_ok L hL.2 v (hv v hm)))), _, rfl, rfl⟩)
  obtain ⟨d, rfl, hd⟩ := hJ
  refine (run_nx (ρ := [dI L, dI room, .d (.list (viewsD vs)), d]) rfl ?_).trans rfl
  show p_need_way [dI L, dI room, .d (.list (viewsD vs)), .junk] = _
  unfold p_need_way
  rw [seq_nx s1, seq_nx s2, seq_nx s3, seq_nx ((for_ok (src := sList (cVar 2)) rfl).trans e3)]
  have cc := comp_ok (src := sList (cVar 2)) (own := [3]) (g := gN 3) (t := cTb (cN gtK [.e (cN lenK [.e (cCall g_needs_of [.s 3])]), .s 1])) (f := cVar 3) (ρ := [dI L, dI room, .d (.list (viewsD vs)), d]) (ρ1 := [dI L, dI room, .d (.list (viewsD vs)), d]) (ds := viewsD vs) (fun _ => false) id rfl (by simpa using hd) rfl rfl rfl (by omega) (by
      intro y hy
      obtain ⟨v, hm, rfl⟩ := List.mem_map.mp hy
      refine ⟨[dI L, dI room, .d (.list (viewsD vs)), .d v.d], [dI L, dI room, .d (.list (viewsD vs)), .d v.d], rfl, ?_, fun _ => rfl, fun z => by cases z⟩
      have g1 : gtK [.int ((((needsI v).map rowD).length : Nat) : Int), .int room] = some (dB false) := by
        show some (dB (decide (room < _))) = _
        rw [decide_eq_false (by rw [List.length_map]; have := hn v hm; omega)]
      exact tb_ok (v_es (v_e (call_s (i := 3) rfl (needs_of_ok L hL.2 v (hv v hm))) rfl rfl) rfl rfl rfl g1))
  have f0 : ((viewsD vs).filter fun _ => false).map id = [] := by simp
  rw [f0] at cc
  exact ite_nx (tb_ok (v_ee cc rfl (show cLst [] _ = .ok (.ol []) _ from rfl) rfl (neK_rows [] [])))
/-! ### are_rising -/
theorem setSort_rows {rs : List (List Int)} (h3 : ∀ r ∈ rs, r.length = 3) (hl : rs.length < 64) : setSortK [.list (rs.map rowD)] = some (.ol ((sset rs).map rowD)) := by
  unfold setSortK
  simp only [rowsOf_map, Option.bind_some]
  rw [if_pos]
  refine ⟨hl, ?_⟩
  unfold noNil
  rw [List.all_eq_true]
  intro r hr
  have := h3 r hr
  cases r with
  | nil => cases this
  | cons a b => rfl
theorem rising_ok {rs : List (List Int)} (h3 : ∀ r ∈ rs, r.length = 3) (hl : rs.length < 64) : g_are_rising [.d (rowsD rs)] = .ok (dB (decide (rs = sset rs))) [.d (rowsD rs)] := by
  refine (run_rt (ρ := [.d (rowsD rs)]) rfl ?_).trans rfl
  show p_are_rising [.d (rowsD rs)] = _
  unfold p_are_rising
  exact ret_ok (v_ee (v_s (k := listK) (i := 0) (x := rowsD rs) rfl rfl rfl) rfl (v_s (k := setSortK) (i := 0) (x := rowsD rs) rfl rfl (setSort_rows h3 hl)) rfl (eqK_rows rs (sset rs)))
end TL
set_option linter.all false
set_option maxRecDepth 100000
set_option maxHeartbeats 4000000
namespace TL
open PySem PySem.Spec PyProof.Rows L2 TP
variable [TabsOf]
abbrev Stage := List (List Int) × List (List Int)
abbrev stepD (p : Stage) : PyData := .tuple [rowsD p.1, rowsD p.2]
def planD (ps : List Stage) : List PyData := ps.map stepD
def R3 (rs : List (List Int)) : Prop := ∀ r ∈ rs, r.length = 3
structure StOk (n : Nat) (p : Stage) : Prop where
  a : R3 p.1
  b : R3 p.2
  c : p.1.length ≤ n
  d : p.2.length ≤ n
def insOf (ins : List (List Int)) (p : Stage) : List (List Int) := ins.filter fun r => !decide (r ∈ p.2)
/-- one stage judged: what is inside then, if it holds -/
def chk (L room : Int) (v : VV) (ins : List (List Int)) (p : Stage) : Option (List (List Int)) :=
  if (!decide (p.1 = sset p.1) || (!decide (p.2 = sset p.2) || p.2.any fun r => !decide (r ∈ ins))) = true then none
  else if (p.1.any fun r => decide (r ∈ insOf ins p) || (decide (r = W0) || !isSq L r)) = true then none
  else if (decide (room < ((insOf ins p ++ p.1).length : Int)) || (needsI v).any fun r => !decide (r ∈ insOf ins p ++ p.1)) = true then none
  else some (insOf ins p ++ p.1)
def chks (L room : Int) : List VV → List Stage → List (List Int) → Bool
  | v :: vs, p :: ps, ins => match chk L room v ins p with
    | some ins' => chks L room vs ps ins'
    | none => false
  | _, _, _ => true
theorem insOf_len (ins : List (List Int)) (p : Stage) : (insOf ins p).length ≤ ins.length := List.length_filter_le _ _
theorem three {r : List Int} (h : r.length = 3) : ∃ l x y, r = [l, x, y] := by
  match r, h with
  | [l, x, y], _ => exact ⟨l, x, y, rfl⟩
noncomputable def bodyIP : SF := (cSeq (cIte (fOr (fNot (cTb (cCall g_are_rising [.s 6]))) (fOr (fNot (cTb (cCall g_are_rising [.s 7]))) (cTb (cN neK [.e (cComp (sList (cVar 7)) [8] (gN 8) (cTb (cN notInK [.s 8, .s 4])) (cVar 8)), .e (cLst [])])))) (cRet (cC (.bool false))) (cNx))
  (cSeq (cSet 4 (cComp (sList (cVar 4)) [8] (gN 8) (cTb (cN notInK [.s 8, .s 7])) (cVar 8)))
  (cSeq (cIte (cTb (cN neK [.e (cComp (sList (cVar 6)) [8] (gN 8) (fOr (cTb (cN inK [.s 8, .s 4])) (fOr (cTb (cN eqK [.s 8, .c c_WHOLE])) (fNot (cTb (cCall g_is_square [.s 0, .s 8]))))) (cVar 8)), .e (cLst [])])) (cRet (cC (.bool false))) (cNx))
  (cSeq (cSet 4 (cN addK [.s 4, .s 6]))
  (cIte (fOr (cTb (cN gtK [.e (cN lenK [.s 4]), .s 1])) (cTb (cN neK [.e (cComp (sList (cCall g_needs_of [.s 5])) [8] (gN 8) (cTb (cN notInK [.s 8, .s 4])) (cVar 8)), .e (cLst [])]))) (cRet (cC (.bool false))) (cNx))))))
theorem eqK_row (a b : List Int) : eqK [rowD a, rowD b] = some (dB (decide (a = b))) := by
  have : eqK [rowD a, rowD b] = if (notDict (rowD a) && notDict (rowD b) && SeqAt.shaped (rowD a) && SeqAt.shaped (rowD b)) = true then some (.d (.bool (PyData.eqv (rowD a) (rowD b)))) else none := (rfl)
  rw [this, if_pos (by rw [shaped_row, shaped_row]; rfl), eqv_row]
theorem ite_b {t : TF} {s u : SF} {ρ ρ1 : List R} {b : Bool} (h : t ρ = .ok b ρ1) : cIte t s u ρ = if b = true then s ρ1 else u ρ1 := by
  cases b with
  | true => exact ite_t h
  | false => exact ite_f h
theorem body_ok (L room : Int) (hL : 1 ≤ L ∧ L ≤ 6) (v : VV) (hv : VOk L v) (p : Stage) (hp : StOk 63 p) (ins : List (List Int)) (hi : ins.length ≤ 10000) (wv pv : PyData) :
    ∃ ρ, bodyIP [dI L, dI room, .d wv, .d pv, .ol (ins.map rowD), .d v.d, .d (rowsD p.1), .d (rowsD p.2), .junk] = .ok (match chk L room v ins p with
      | some _ => .nx
      | none => .rt (dB false)) ρ ∧ ∃ x, ρ = [dI L, dI room, .d wv, .d pv, .ol x, .d v.d, .d (rowsD p.1), .d (rowsD p.2), .junk] ∧ ∀ y, chk L room v ins p = some y → x = y.map rowD := by
  obtain ⟨f, t⟩ := p
  obtain ⟨f3, t3, fl, tl⟩ := hp
  simp only at f3 t3 fl tl
  have hwh := hv.wh
  have t1 : ∀ (m : List R), fNot (cTb (cCall g_are_rising [.s 6])) (dI L :: dI room :: .d wv :: .d pv :: .ol (ins.map rowD) :: .d v.d :: .d (rowsD f) :: m) = .ok (!decide (f = sset f)) (dI L :: dI room :: .d wv :: .d pv :: .ol (ins.map rowD) :: .d v.d :: .d (rowsD f) :: m) := fun m =>
    not_ok (tb_ok (call_s (i := 6) rfl (rising_ok f3 (by omega))))
  have t2 := not_ok (tb_ok (call_s (i := 7) (ρ := [dI L, dI room, .d wv, .d pv, .ol (ins.map rowD), .d v.d, .d (rowsD f), .d (rowsD t), .junk]) rfl (rising_ok t3 (by omega))))
  have t4 := rowsAny (src := sList (cVar 7)) (t := cTb (cN notInK [.s 8, .s 4])) (i := 8) (ρ := [dI L, dI room, .d wv, .d pv, .ol (ins.map rowD), .d v.d, .d (rowsD f), .d (rowsD t), .junk]) (rs := t) (fun r => !decide (r ∈ ins)) rfl rfl rfl rfl (by simp) (by omega) (by
    intro r hr
    exact tb_ok (v_ss (k := notInK) (i := 8) (j := 4) (x := rowD r) rfl rfl rfl rfl (notInK_row r ins)))
  have c1 := for_b (t1 _) (for_b t2 t4)
  have s1 := ite_b (s := cRet (cC (.bool false))) (u := cNx) c1
  unfold bodyIP
  by_cases h1 : (!decide (f = sset f) || (!decide (t = sset t) || t.any fun r => !decide (r ∈ ins))) = true
  · rw [if_pos h1] at s1
    have hc : chk L room v ins (f, t) = none := if_pos h1
    rw [hc]
    exact ⟨_, seq_rt s1, _, rfl, fun y z => by cases z⟩
  rw [if_neg h1] at s1
  rw [seq_nx s1]
  have m1 := cSet_ok (i := 4) (rowsf (src := sList (cVar 4)) (t := cTb (cN notInK [.s 8, .s 7])) (i := 8) (ρ := [dI L, dI room, .d wv, .d pv, .d (rowsD ins), .d v.d, .d (rowsD f), .d (rowsD t), .junk]) (rs := ins) (fun r => !decide (r ∈ t)) rfl rfl rfl rfl (by simp) (by omega) (by
    intro r hr
    exact tb_ok (v_ss (k := notInK) (i := 8) (j := 7) (x := rowD r) rfl rfl rfl rfl (notInK_row r t))))
  have m1' : cSet 4 (cComp (sList (cVar 4)) [8] (gN 8) (cTb (cN notInK [.s 8, .s 7])) (cVar 8)) [dI L, dI room, .d wv, .d pv, .ol (ins.map rowD), .d v.d, .d (rowsD f), .d (rowsD t), .junk] = .ok .nx [dI L, dI room, .d wv, .d pv, .ol ((insOf ins (f, t)).map rowD), .d v.d, .d (rowsD f), .d (rowsD t), .junk] := m1
  rw [seq_nx m1']
  generalize hi1 : insOf ins (f, t) = i1
  have li1 : i1.length ≤ 10000 := by rw [← hi1]; exact Nat.le_trans (insOf_len _ _) hi
  have t5 := rowsAny (src := sList (cVar 6)) (t := fOr (cTb (cN inK [.s 8, .s 4])) (fOr (cTb (cN eqK [.s 8, .c c_WHOLE])) (fNot (cTb (cCall g_is_square [.s 0, .s 8]))))) (i := 8) (ρ := [dI L, dI room, .d wv, .d pv, .ol (i1.map rowD), .d v.d, .d (rowsD f), .d (rowsD t), .junk]) (rs := f) (fun r => decide (r ∈ i1) || (decide (r = W0) || !isSq L r)) rfl rfl rfl rfl (by simp) (by omega) (by
    intro r hr
    obtain ⟨l, x, y, rfl⟩ := three (f3 r hr)
    exact for_b (tb_ok (v_ss (k := inK) (i := 8) (j := 4) (x := rowD [l, x, y]) rfl rfl rfl rfl (inK_row [l, x, y] i1)))
      (for_b (tb_ok (v_sc (k := eqK) (i := 8) (x := rowD [l, x, y]) (y := c_WHOLE) rfl rfl (eqK_row [l, x, y] W0))) (not_ok (tb_ok (call_ss (i := 0) (j := 8) rfl rfl (is_square_ok L l x y hL.2))))))
  have s2 := ite_b (s := cRet (cC (.bool false))) (u := cNx) t5
  by_cases h2 : (f.any fun r => decide (r ∈ i1) || (decide (r = W0) || !isSq L r)) = true
  · rw [if_pos h2] at s2
    have hc : chk L room v ins (f, t) = none := by unfold chk; rw [if_neg h1, hi1, if_pos h2]
    rw [hc]
    exact ⟨_, seq_rt s2, _, rfl, fun y z => by cases z⟩
  rw [if_neg h2] at s2
  rw [seq_nx s2]
  have ak : addK [.list (i1.map rowD), .list (f.map rowD)] = some (.ol ((i1 ++ f).map rowD)) := by
    show (if (i1.map rowD).length + (f.map rowD).length ≤ 100000 then _ else _) = _
    rw [if_pos (by rw [List.length_map, List.length_map]; omega), List.map_append]
  have m2 : cSet 4 (cN addK [.s 4, .s 6]) [dI L, dI room, .d wv, .d pv, .ol (i1.map rowD), .d v.d, .d (rowsD f), .d (rowsD t), .junk] = .ok .nx [dI L, dI room, .d wv, .d pv, .ol ((i1 ++ f).map rowD), .d v.d, .d (rowsD f), .d (rowsD t), .junk] :=
    cSet_ok (v_ss (k := addK) (i := 4) (j := 6) rfl rfl rfl rfl ak)
  rw [seq_nx m2]
  have t6 : cTb (cN gtK [.e (cN lenK [.s 4]), .s 1]) [dI L, dI room, .d wv, .d pv, .ol ((i1 ++ f).map rowD), .d v.d, .d (rowsD f), .d (rowsD t), .junk] = .ok (decide (room < ((i1 ++ f).length : Int))) [dI L, dI room, .d wv, .d pv, .ol ((i1 ++ f).map rowD), .d v.d, .d (rowsD f), .d (rowsD t), .junk] := by
    have g1 : gtK [.int ((((i1 ++ f).map rowD).length : Nat) : Int), .int room] = some (dB (decide (room < ((i1 ++ f).length : Int)))) := by
      show some (dB (decide (room < _))) = _
      rw [List.length_map]
    exact tb_ok (v_es (v_s (k := lenK) (i := 4) rfl rfl rfl) rfl rfl rfl g1)
  have t7 := rowsAny (src := sList (cCall g_needs_of [.s 5])) (t := cTb (cN notInK [.s 8, .s 4])) (i := 8) (ρ := [dI L, dI room, .d wv, .d pv, .ol ((i1 ++ f).map rowD), .d v.d, .d (rowsD f), .d (rowsD t), .junk]) (rs := needsI v) (fun r => !decide (r ∈ i1 ++ f)) (list_of (call_s (i := 5) rfl (needs_of_ok L hL.2 v hv))) rfl rfl rfl (by simp) (by have := needs_len v; omega) (by
    intro r hr
    exact tb_ok (v_ss (k := notInK) (i := 8) (j := 4) (x := rowD r) rfl rfl rfl rfl (notInK_row r (i1 ++ f))))
  have s3 := ite_b (s := cRet (cC (.bool false))) (u := cNx) (for_b t6 t7)
  by_cases h3 : (decide (room < ((i1 ++ f).length : Int)) || (needsI v).any fun r => !decide (r ∈ i1 ++ f)) = true
  · rw [if_pos h3] at s3
    have hc : chk L room v ins (f, t) = none := by unfold chk; rw [if_neg h1, hi1, if_neg h2, if_pos h3]
    rw [hc]
    exact ⟨_, s3, _, rfl, fun y z => by cases z⟩
  · rw [if_neg h3] at s3
    have hc : chk L room v ins (f, t) = some (i1 ++ f) := by unfold chk; rw [if_neg h1, hi1, if_neg h2, if_neg h3]
    rw [hc]
    exact ⟨_, s3, _, rfl, fun y z => by cases z; rfl⟩
theorem loop_ok (L room : Int) (hL : 1 ≤ L ∧ L ≤ 6) (wv pv : PyData) : ∀ (vs : List VV) (ps : List Stage) (ins : List (List Int)), (∀ v ∈ vs, VOk L v) → (∀ p ∈ ps, StOk 63 p) → ins.length + 63 * ps.length ≤ 10000 → ∀ a b c : R, 
    ∃ x d e g, forL (gT [gN 5, gT [gN 6, gN 7]]) bodyIP (List.zipWith (fun x y => .tuple [x, y]) (viewsD vs) (planD ps)) [dI L, dI room, .d wv, .d pv, .ol (ins.map rowD), a, b, c, .junk] = .ok (if chks L room vs ps ins = true then .nx else .rt (dB false)) [dI L, dI room, .d wv, .d pv, .ol x, d, e, g, .junk]
  | [], ps, ins, _, _, _, a, b, c => ⟨_, a, b, c, rfl⟩
  | v :: vs, [], ins, _, _, _, a, b, c => ⟨_, a, b, c, rfl⟩
  | v :: vs, p :: ps, ins, hv, hp, hl, a, b, c => by
    obtain ⟨ρ, e, x, rfl, hx⟩ := body_ok L room hL v (hv v List.mem_cons_self) p (hp p List.mem_cons_self) ins (by omega) wv pv
    show ∃ x d e g, ((bodyIP [dI L, dI room, .d wv, .d pv, .ol (ins.map rowD), .d v.d, .d (rowsD p.1), .d (rowsD p.2), .junk]).bind fun fl ρ2 => match fl with
      | .nx => forL (gT [gN 5, gT [gN 6, gN 7]]) bodyIP (List.zipWith (fun x y => .tuple [x, y]) (viewsD vs) (planD ps)) ρ2
      | .ct => forL (gT [gN 5, gT [gN 6, gN 7]]) bodyIP (List.zipWith (fun x y => .tuple [x, y]) (viewsD vs) (planD ps)) ρ2
      | .bk => .ok .nx ρ2
      | .rt r => .ok (.rt r) ρ2) = _
    rw [e]
    have hs : chks L room (v :: vs) (p :: ps) ins = match chk L room v ins p with
      | some ins' => chks L room vs ps ins'
      | none => false := (rfl)
    cases hc : chk L room v ins p with
    | none =>
      rw [hc] at hs
      rw [hs]
      exact ⟨_, _, _, _, rfl⟩
    | some y =>
      rw [hc] at hs
      rw [hs, hx y hc]
      have ly : y.length ≤ ins.length + 63 := by
        have hcc := hc
        unfold chk at hcc
        split at hcc
        · cases hcc
        split at hcc
        · cases hcc
        split at hcc
        · cases hcc
        cases hcc
        have := insOf_len ins p
        have := (hp p List.mem_cons_self).c
        rw [List.length_append]
        omega
      exact loop_ok L room hL wv pv vs ps y (fun v h => hv v (List.mem_cons_of_mem _ h)) (fun p h => hp p (List.mem_cons_of_mem _ h)) (by rw [List.length_cons] at hl; omega) _ _ _
end TL
set_option linter.all false
set_option maxRecDepth 100000
set_option maxHeartbeats 4000000
namespace TL
open PySem PySem.Spec PyProof.Rows L2 TP
variable [TabsOf]
theorem vw_toD {r : R} {xs : List PyData} (h : vw r = some (.list xs)) : toD r = some (.list xs) := by
  cases r with
  | d x => exact h
  | ol ys => exact h
  | dt kvs => cases h
  | _ => cases h
def isPl (L room : Int) (vs : List VV) (ps : List Stage) : Bool := decide (ps.length = vs.length) && chks L room vs ps []
theorem is_plan_ok (L room : Int) (hL : 1 ≤ L ∧ L ≤ 6) (hr : 1 ≤ room ∧ room ≤ 40) (vs : List VV) (hv : ∀ v ∈ vs, VOk L v) (hl : 1 ≤ vs.length ∧ vs.length ≤ 12) (hn : ∀ v ∈ vs, ((needsI v).length : Int) ≤ room) (ps : List Stage) (hp : ∀ p ∈ ps, StOk 63 p) (hpl : ps.length ≤ 100) (r3 : R) (h3 : vw r3 = some (.list (planD ps))) :
    ∃ r3', g_is_plan [dI L, dI room, .d (.list (viewsD vs)), r3] = .ok (dB (isPl L room vs ps)) [dI L, dI room, .d (.list (viewsD vs)), r3'] ∧ vw r3' = some (.list (planD ps)) := by
  have lenv : (viewsD vs).length = vs.length := by unfold viewsD; simp
  have lenp : (planD ps).length = ps.length := by unfold planD; simp
  have nj : isJ r3 = false := jV h3
  have s1 : cDrop (cCall g_need_way [.s 0, .s 1, .s 2]) [dI L, dI room, .d (.list (viewsD vs)), r3, .junk, .junk, .junk, .junk, .junk] = .ok .nx [dI L, dI room, .d (.list (viewsD vs)), r3, .junk, .junk, .junk, .junk, .junk] := by
    refine drop_ok (r := .d .none) ?_
    simp [cCall, cOps, isJ, Rs.bind, takeHs, need_way_ok L room hL hr vs hv hl hn, putHs]
  have n1 : neK [.int (((planD ps).length : Nat) : Int), .int (((viewsD vs).length : Nat) : Int)] = some (dB (!decide (ps.length = vs.length))) := by
    have e : neK [.int (((planD ps).length : Nat) : Int), .int (((viewsD vs).length : Nat) : Int)] = some (.d (.bool (!PyData.eqv (.int (((planD ps).length : Nat) : Int)) (.int (((viewsD vs).length : Nat) : Int))))) := (rfl)
    rw [e, lenp, lenv]
    simp [PyData.eqv]
    by_cases z : ps.length = vs.length
    · simp [z]
    · have : ¬ ((ps.length : Int) = (vs.length : Int)) := by omega
      simp [z, this]
  have t2 : cTb (cN neK [.e (cN lenK [.s 3]), .e (cN lenK [.s 2])]) [dI L, dI room, .d (.list (viewsD vs)), r3, .junk, .junk, .junk, .junk, .junk] = .ok (!decide (ps.length = vs.length)) [dI L, dI room, .d (.list (viewsD vs)), r3, .junk, .junk, .junk, .junk, .junk] :=
    tb_ok (v_ee (v_s (k := lenK) (i := 3) (r := r3) rfl h3 rfl) rfl (v_s (k := lenK) (i := 2) rfl rfl rfl) rfl n1)
  have s2 := ite_b (s := cRet (cC (.bool false))) (u := cNx) t2
  by_cases hle : ps.length = vs.length
  · rw [decide_eq_true hle] at s2
    have s2' : cIte (cTb (cN neK [.e (cN lenK [.s 3]), .e (cN lenK [.s 2])])) (cRet (cC (.bool false))) (cNx) [dI L, dI room, .d (.list (viewsD vs)), r3, .junk, .junk, .junk, .junk, .junk] = .ok .nx [dI L, dI room, .d (.list (viewsD vs)), r3, .junk, .junk, .junk, .junk, .junk] := s2
    have s3 : cSet 4 (cLst []) [dI L, dI room, .d (.list (viewsD vs)), r3, .junk, .junk, .junk, .junk, .junk] = .ok .nx [dI L, dI room, .d (.list (viewsD vs)), r3, .ol [], .junk, .junk, .junk, .junk] := (rfl)
    have v3 : cVar 3 [dI L, dI room, .d (.list (viewsD vs)), r3, .ol [], .junk, .junk, .junk, .junk] = .ok (.d (.list (planD ps))) [dI L, dI room, .d (.list (viewsD vs)), .d (.list (planD ps)), .ol [], .junk, .junk, .junk, .junk] := by
      simp [cVar, vw_toD h3]
    have src : sZip [.e (cVar 2), .e (cVar 3)] [dI L, dI room, .d (.list (viewsD vs)), r3, .ol [], .junk, .junk, .junk, .junk] = .ok (List.zipWith (fun x y => .tuple [x, y]) (viewsD vs) (planD ps)) [dI L, dI room, .d (.list (viewsD vs)), .d (.list (planD ps)), .ol [], .junk, .junk, .junk, .junk] := by
      have o : cOps [.e (cVar 2), .e (cVar 3)] [dI L, dI room, .d (.list (viewsD vs)), r3, .ol [], .junk, .junk, .junk, .junk] = .ok [.t (.d (.list (viewsD vs))), .t (.d (.list (planD ps)))] [dI L, dI room, .d (.list (viewsD vs)), .d (.list (planD ps)), .ol [], .junk, .junk, .junk, .junk] :=
        ops_e (var_d rfl) (ops_e v3 rfl)
      unfold sZip
      rw [o]; rfl
    obtain ⟨x, d, e, g, hf⟩ := loop_ok L room hL (.list (viewsD vs)) (.list (planD ps)) vs ps [] hv hp (by simp; omega) .junk .junk .junk
    have hfor := (for_ok src).trans hf
    have hip : isPl L room vs ps = chks L room vs ps [] := by unfold isPl; simp [hle]
    rw [hip]
    refine ⟨.d (.list (planD ps)), ?_, rfl⟩
    cases hc : chks L room vs ps [] with
    | true =>
      rw [hc, if_pos rfl] at hfor
      refine (run_rt (ρ := [dI L, dI room, .d (.list (viewsD vs)), .d (.list (planD ps)), .ol x, d, e, g, .junk]) rfl ?_).trans rfl
      show p_is_plan [dI L, dI room, .d (.list (viewsD vs)), r3, .junk, .junk, .junk, .junk, .junk] = _
      unfold p_is_plan
      rw [seq_nx s1, seq_nx s2', seq_nx s3]
      exact (seq_nx hfor).trans rfl
    | false =>
      rw [hc, if_neg (by simp)] at hfor
      refine (run_rt (ρ := [dI L, dI room, .d (.list (viewsD vs)), .d (.list (planD ps)), .ol x, d, e, g, .junk]) rfl ?_).trans rfl
      show p_is_plan [dI L, dI room, .d (.list (viewsD vs)), r3, .junk, .junk, .junk, .junk, .junk] = _
      unfold p_is_plan
      rw [seq_nx s1, seq_nx s2', seq_nx s3]
      exact seq_rt hfor
  · rw [decide_eq_false hle] at s2
    have hip : isPl L room vs ps = false := by unfold isPl; simp [hle]
    rw [hip]
    refine ⟨r3, (run_rt (ρ := [dI L, dI room, .d (.list (viewsD vs)), r3, .junk, .junk, .junk, .junk, .junk]) rfl ?_).trans rfl, h3⟩
    show p_is_plan [dI L, dI room, .d (.list (viewsD vs)), r3, .junk, .junk, .junk, .junk, .junk] = _
    unfold p_is_plan
    rw [seq_nx s1]
    exact seq_rt s2
end TL
set_option linter.all false
set_option maxRecDepth 100000
set_option maxHeartbeats 4000000
namespace TL
open PySem PySem.Spec PyProof.Rows L2 TP
variable [TabsOf]
def kOf (r : List Int) : NestedKey := .tup (r.map .num)
theorem nums_inj : ∀ {a b : List Int}, a.map NestedKey.num = b.map NestedKey.num → a = b
  | [], [], _ => rfl
  | [], _ :: _, h => by cases h
  | _ :: _, [], h => by cases h
  | a :: as, b :: bs, h => by
    simp only [List.map_cons, List.cons.injEq, NestedKey.num.injEq] at h
    rw [h.1, nums_inj h.2]
theorem kOf_inj {a b : List Int} : kOf a = kOf b ↔ a = b := by
  constructor
  · intro h
    unfold kOf at h
    injection h with h
    exact nums_inj h
  · rintro rfl; rfl
theorem keyOf_row {r : List Int} (h : r.length = 3) : keyOf (rowD r) = some (kOf r) := by
  obtain ⟨l, x, y, rfl⟩ := three h
  rfl
theorem kOf_data (r : List Int) : (kOf r).data = rowD r := by
  have : ∀ r : List Int, nkeys (r.map PyData.int) = some (r.map NestedKey.num) := by
    intro r
    induction r with
    | nil => rfl
    | cons a r ih =>
      show (nkey (.int a)).bind (fun k => (nkeys (r.map PyData.int)).map (k :: ·)) = _
      rw [ih]; rfl
  refine nkey_data ?_
  show (nkeys (r.map PyData.int)).map NestedKey.tup = _
  rw [this]; rfl
def dk (ks : List (List Int)) : List (NestedKey × PyData) := ks.map fun r => (kOf r, .bool true)
theorem valD_dk (ks : List (List Int)) (r : List Int) : (valD (dk ks) (kOf r)).isSome = decide (r ∈ ks) := by
  induction ks with
  | nil => rfl
  | cons a ks ih =>
    unfold valD dk at *
    rw [List.map_cons, List.find?_cons]
    by_cases e : a = r
    · simp [e]
    · have : ¬ kOf a = kOf r := fun z => e (kOf_inj.mp z)
      simp only [this, decide_false]
      rw [ih]
      have e' : ¬ r = a := fun z => e z.symm
      simp [e']
theorem inDB_row {r : List Int} (h : r.length = 3) (ks : List (List Int)) : inDB (rowD r) (dictD (dk ks)) = some (decide (r ∈ ks)) := by
  unfold inDB dictD
  simp only [keyOf_row h, Option.bind_some, kvsOf_map, Option.map_some, valD_dk]
theorem inK2_row {r : List Int} (h : r.length = 3) (ks : List (List Int)) : inK2 [rowD r, dictD (dk ks)] = some (dB (decide (r ∈ ks))) := by
  have e : inB (rowD r) (dictD (dk ks)) = none := (rfl)
  unfold inK2
  simp only [e, inDB_row h]
  rfl
theorem notInK2_row {r : List Int} (h : r.length = 3) (ks : List (List Int)) : notInK2 [rowD r, dictD (dk ks)] = some (dB (!decide (r ∈ ks))) := by
  have e : inB (rowD r) (dictD (dk ks)) = none := (rfl)
  unfold notInK2
  simp only [e, inDB_row h]
  rfl
theorem dropD_dk (ks : List (List Int)) (r : List Int) : dropD (dk ks) (kOf r) = dk (ks.filter fun a => !decide (a = r)) := by
  induction ks with
  | nil => rfl
  | cons a ks ih =>
    unfold dropD dk at *
    rw [List.map_cons, List.filter_cons, List.filter_cons]
    by_cases e : a = r
    · simp only [e, ne_eq, not_true_eq_false, decide_false, decide_true, Bool.not_true]
      exact ih
    · have : ¬ kOf a = kOf r := fun z => e (kOf_inj.mp z)
      simp only [ne_eq, this, not_false_eq_true, decide_true, if_true, e, decide_false, Bool.not_false, List.map_cons]
      rw [ih]
theorem pop_row {r : List Int} (h : r.length = 3) {ks : List (List Int)} (hm : r ∈ ks) : popXM (.dt (dk ks)) [.d (rowD r)] = some (.dt (dk (ks.filter fun a => !decide (a = r))), .d (.bool true)) := by
  unfold popXM
  simp only [keyOf_row h, Option.bind_some, dropD_dk]
  have e := valD_dk ks r
  rw [decide_eq_true hm] at e
  obtain ⟨d, hd⟩ := Option.isSome_iff_exists.mp e
  rw [hd]
  have : d = .bool true := by
    unfold valD dk at hd
    rw [Option.map_eq_some_iff] at hd
    obtain ⟨p, hp, rfl⟩ := hd
    have := List.mem_of_find?_eq_some hp
    obtain ⟨_, _, rfl⟩ := List.mem_map.mp this
    rfl
  rw [this]; rfl
theorem pairs_rows : ∀ {fs : List (List Int)}, R3 fs → pairsOf (fs.map fun r => .tuple [rowD r, .bool true]) = some (dk fs)
  | [], _ => rfl
  | r :: fs, h => by
    show (keyOf (rowD r)).bind (fun k => (pairsOf (fs.map fun r => .tuple [rowD r, .bool true])).map ((k, .bool true) :: ·)) = _
    rw [keyOf_row (h r List.mem_cons_self), pairs_rows fun a ha => h a (List.mem_cons_of_mem _ ha)]
    rfl
theorem putAll_dk : ∀ {fs ks : List (List Int)}, fs.Nodup → (∀ r ∈ fs, r ∉ ks) → putAllD (dk ks) (dk fs) = dk (ks ++ fs)
  | [], ks, _, _ => by simp [putAllD, dk]
  | r :: fs, ks, nd, h => by
    show putAllD (putD (dk ks) (kOf r) (.bool true)) (dk fs) = _
    have e : putD (dk ks) (kOf r) (.bool true) = dk (ks ++ [r]) := by
      unfold putD
      rw [valD_dk, decide_eq_false (h r List.mem_cons_self), if_neg (by simp)]
      unfold dk
      rw [List.map_append]; rfl
    have nd' := List.nodup_cons.mp nd
    rw [e, putAll_dk nd'.2 (by
      intro a ha hm
      rcases List.mem_append.mp hm with z | z
      · exact h a (List.mem_cons_of_mem _ ha) z
      · rw [List.mem_singleton.mp z] at ha
        exact nd'.1 ha), List.append_assoc]
    rfl
theorem upd_rows {fs ks : List (List Int)} (h3 : R3 fs) (nd : fs.Nodup) (h : ∀ r ∈ fs, r ∉ ks) (hl : ks.length + fs.length ≤ 100000) : updXM (.dt (dk ks)) [.ol (fs.map fun r => .tuple [rowD r, .bool true])] = some (.dt (dk (ks ++ fs)), .d .none) := by
  unfold updXM
  simp only [toD, pairs_rows h3, Option.bind_some]
  rw [if_pos (by unfold dk; rw [List.length_map, List.length_map]; exact hl), putAll_dk nd h]
theorem len_dk (ks : List (List Int)) : lenK2 [dictD (dk ks)] = some (dI (ks.length : Nat)) := by
  unfold dictD lenK2 dk
  simp
theorem sset_nodup {rs : List (List Int)} (h : rs = sset rs) : rs.Nodup := by
  rw [h]
  unfold sset
  exact (List.mergeSort_perm _ _).nodup_iff.mpr (ddup_nodup rs)
theorem rng_cons (lo : Int) (n : Nat) : rngD lo (n + 1) = .int lo :: rngD (lo + 1) n := by
  unfold rngD
  rw [List.range_succ_eq_map, List.map_cons, List.map_map]
  congr 1
  · simp
  · refine List.map_congr_left fun k _ => ?_
    simp only [Function.comp, PyData.int.injEq]
    omega
theorem atI_nat {α : Type} (xs : List α) (j : Nat) (h : j < xs.length) : atI xs (j : Int) = xs[j]? := by
  unfold atI ixN
  simp [h]
  try omega
theorem ix_nat {xs : List PyData} {j : Nat} {d : PyData} (h : xs[j]? = some d) : ixK [.list xs, .int (j : Int)] = some (.d d) := by
  show (atI xs (j : Int)).map R.d = _
  rw [atI_nat xs j (List.getElem?_eq_some_iff.mp h).1, h]; rfl
end TL
set_option linter.all false
set_option maxRecDepth 100000
set_option maxHeartbeats 4000000
namespace TL
open PySem PySem.Spec PyProof.Rows L2 TP
variable [TabsOf]
def badR (L : Int) (r : List Int) : Bool := decide (r = W0) || !isSq L r
noncomputable def bodyPop : SF := cDrop (cMut 4 [] isDX popXM [.e (cVar 9)])
noncomputable def bodyF : SF := (cSeq (cIte (fOr (fNot (cTb (cChain (fun i j => decide (i < j)) (fun i j => decide (i < j)) (cC (.int 0)) (cVar 10) (cVar 0)))) (fOr (fNot (cTb (cChain (fun i j => decide (i ≤ j)) (fun i j => decide (i < j)) (cC (.int 0)) (cVar 11) (cCall g__law_side [.s 10])))) (fNot (cTb (cChain (fun i j => decide (i ≤ j)) (fun i j => decide (i < j)) (cC (.int 0)) (cVar 12) (cCall g__law_side [.s 10])))))) (cRet (cC (.bool false))) (cNx))
  (cIte (cTb (cN inK2 [.e (cTup [.e (cVar 10), .e (cVar 11), .e (cVar 12)]), .s 4])) (cRet (cC (.bool false))) (cNx)))
theorem cht {p p' : Int → Int → Bool} {f g h : EF} {i j l : Int} {ρ : List R} {b : Bool} (hf : f ρ = .ok (dI i) ρ) (hg : g ρ = .ok (dI j) ρ) (hh : h ρ = .ok (dI l) ρ) (hb : (p i j && p' j l) = b) : fNot (cTb (cChain p p' f g h)) ρ = .ok (!b) ρ := by
  rw [← hb]
  exact not_ok (tb_ok (chain_b hf hg hh))
/-- the sixteen slots, the last three are the row's -/
theorem bodyF_ok (L : Int) (hL : 1 ≤ L ∧ L ≤ 6) (ks : List (List Int)) (l x y : Int) (q1 q2 q3 q5 q6 q7 q8 q9 : R) :
    bodyF [dI L, q1, q2, q3, .dt (dk ks), q5, q6, q7, q8, q9, dI l, dI x, dI y] = .ok (if (badR L [l, x, y] || decide ([l, x, y] ∈ ks)) = true then .rt (dB false) else .nx) [dI L, q1, q2, q3, .dt (dk ks), q5, q6, q7, q8, q9, dI l, dI x, dI y] := by
  generalize hρ : ([dI L, q1, q2, q3, .dt (dk ks), q5, q6, q7, q8, q9, dI l, dI x, dI y] : List R) = ρ
  have g0 : ρ[0]? = some (dI L) := by rw [← hρ]; rfl
  have g4 : ρ[4]? = some (.dt (dk ks)) := by rw [← hρ]; rfl
  have g10 : ρ[10]? = some (dI l) := by rw [← hρ]; rfl
  have g11 : ρ[11]? = some (dI x) := by rw [← hρ]; rfl
  have g12 : ρ[12]? = some (dI y) := by rw [← hρ]; rfl
  have c1 := cht (p := fun i j => decide (i < j)) (p' := fun i j => decide (i < j)) (f := cC (.int 0)) (g := cVar 10) (h := cVar 0) (i := 0) (ρ := ρ) rfl (var_d g10) (var_d g0) rfl
  have tst : ∃ u : TF, u = (fOr (fNot (cTb (cChain (fun i j => decide (i < j)) (fun i j => decide (i < j)) (cC (.int 0)) (cVar 10) (cVar 0)))) (fOr (fNot (cTb (cChain (fun i j => decide (i ≤ j)) (fun i j => decide (i < j)) (cC (.int 0)) (cVar 11) (cCall g__law_side [.s 10])))) (fNot (cTb (cChain (fun i j => decide (i ≤ j)) (fun i j => decide (i < j)) (cC (.int 0)) (cVar 12) (cCall g__law_side [.s 10])))))) ∧ u ρ = .ok (badR L [l, x, y]) ρ := by
    refine ⟨_, rfl, ?_⟩
    by_cases hl : 0 < l ∧ l < L
    · have h6 : 0 ≤ l ∧ l < 6 := by omega
      have c2 := cht (p := fun i j => decide (i ≤ j)) (p' := fun i j => decide (i < j)) (f := cC (.int 0)) (g := cVar 11) (h := cCall g__law_side [.s 10]) (i := 0) (ρ := ρ) rfl (var_d g11) (side_s h6 g10) rfl
      have c3 := cht (p := fun i j => decide (i ≤ j)) (p' := fun i j => decide (i < j)) (f := cC (.int 0)) (g := cVar 12) (h := cCall g__law_side [.s 10]) (i := 0) (ρ := ρ) rfl (var_d g12) (side_s h6 g10) rfl
      rw [for_b c1 (for_b c2 c3)]
      have : badR L [l, x, y] = (!(decide (0 < l) && decide (l < L)) || (!(decide (0 ≤ x) && decide (x < sideI l)) || !(decide (0 ≤ y) && decide (y < sideI l)))) := by
        have n0 : ¬ ([l, x, y] = W0) := by
          intro z
          have : l = 0 := by injection z
          omega
        unfold badR isSq
        rw [decide_eq_false n0, Bool.eq_iff_iff]
        simp
        omega
      rw [this]
    · have e : (decide (0 < l) && decide (l < L)) = false := by simpa using hl
      rw [e] at c1
      rw [for_t c1]
      have : badR L [l, x, y] = true := by
        unfold badR isSq
        by_cases z : [l, x, y] = W0
        · simp [z]
        · rw [decide_eq_false z, Bool.false_or, Bool.not_eq_true', decide_eq_false_iff_not]
          intro h
          have hl0 : l = 0 := by omega
          subst hl0
          have s0 : sideI 0 = 1 := (rfl)
          rw [s0] at h
          have : x = 0 := by omega
          have : y = 0 := by omega
          subst x y
          exact z rfl
      rw [this]
  obtain ⟨u, rfl, hu⟩ := tst
  have i1 := ite_b (s := cRet (cC (.bool false))) (u := cNx) hu
  unfold bodyF
  cases hb : badR L [l, x, y] with
  | true =>
    rw [hb, if_pos rfl] at i1
    exact seq_rt i1
  | false =>
    rw [hb, if_neg (by simp)] at i1
    rw [seq_nx i1]
    have tp : cTup [.e (cVar 10), .e (cVar 11), .e (cVar 12)] ρ = .ok (.d (rowD [l, x, y])) ρ :=
      (tup_ok (rs := [dI l, dI x, dI y]) (ops_e (var_d g10) (ops_e (var_d g11) (ops_e (var_d g12) (show cOps [] ρ = .ok [] ρ from rfl)))) rfl (by simp)).trans rfl
    have i2 := ite_b (s := cRet (cC (.bool false))) (u := cNx) (tb_ok (v_es (k := inK2) (i := 4) tp rfl g4 rfl (inK2_row rfl ks)))
    rw [i2]
    simp only [Bool.false_or]
    split <;> rfl
theorem loopF_ok (L : Int) (hL : 1 ≤ L ∧ L ≤ 6) (ks : List (List Int)) (q1 q2 q3 q5 q6 q7 q8 q9 : R) : ∀ (fs : List (List Int)), R3 fs → ∀ a b c : R,
    ∃ d e f, forL (gT [gN 10, gN 11, gN 12]) bodyF (fs.map rowD) [dI L, q1, q2, q3, .dt (dk ks), q5, q6, q7, q8, q9, a, b, c] = .ok (if (fs.any fun r => badR L r || decide (r ∈ ks)) = true then .rt (dB false) else .nx) [dI L, q1, q2, q3, .dt (dk ks), q5, q6, q7, q8, q9, d, e, f]
  | [], _, a, b, c => ⟨a, b, c, rfl⟩
  | r :: fs, h3, a, b, c => by
    obtain ⟨l, x, y, rfl⟩ := three (h3 r List.mem_cons_self)
    show ∃ d e f, ((bodyF [dI L, q1, q2, q3, .dt (dk ks), q5, q6, q7, q8, q9, dI l, dI x, dI y]).bind fun fl ρ2 => match fl with
      | .nx => forL (gT [gN 10, gN 11, gN 12]) bodyF (fs.map rowD) ρ2
      | .ct => forL (gT [gN 10, gN 11, gN 12]) bodyF (fs.map rowD) ρ2
      | .bk => .ok .nx ρ2
      | .rt r => .ok (.rt r) ρ2) = _
    rw [bodyF_ok L hL]
    rw [List.any_cons]
    cases hb : (badR L [l, x, y] || decide ([l, x, y] ∈ ks)) with
    | true => exact ⟨_, _, _, rfl⟩
    | false =>
      obtain ⟨d, e, f, i⟩ := loopF_ok L hL ks q1 q2 q3 q5 q6 q7 q8 q9 fs (fun r hr => h3 r (List.mem_cons_of_mem _ hr)) (dI l) (dI x) (dI y)
      exact ⟨d, e, f, i⟩
def dropAll (ks ts : List (List Int)) : List (List Int) := ks.filter fun a => !decide (a ∈ ts)
theorem loopPop_ok (q0 q1 q2 q3 q5 q6 q7 q8 q10 q11 q12 : R) : ∀ (ts ks : List (List Int)), R3 ts → ts.Nodup → (∀ r ∈ ts, r ∈ ks) → ∀ a : R,
    ∃ d, forL (gN 9) bodyPop (ts.map rowD) [q0, q1, q2, q3, .dt (dk ks), q5, q6, q7, q8, a, q10, q11, q12] = .ok .nx [q0, q1, q2, q3, .dt (dk (dropAll ks ts)), q5, q6, q7, q8, d, q10, q11, q12] ∧ (slotOk (some a) = true → slotOk (some d) = true)
  | [], ks, _, _, _, a => ⟨a, by simp only [dropAll, forL, List.map_nil, List.not_mem_nil, decide_false, Bool.not_false, filter_yes], fun h => h⟩
  | r :: ts, ks, h3, nd, hm, a => by
    have nd' := List.nodup_cons.mp nd
    have b : bodyPop [q0, q1, q2, q3, .dt (dk ks), q5, q6, q7, q8, .d (rowD r), q10, q11, q12] = .ok .nx [q0, q1, q2, q3, .dt (dk (ks.filter fun a => !decide (a = r))), q5, q6, q7, q8, .d (rowD r), q10, q11, q12] := by
      unfold bodyPop
      refine drop_ok (r := .d (.bool true)) ?_
      have v9 : cVar 9 [q0, q1, q2, q3, .dt (dk ks), q5, q6, q7, q8, .d (rowD r), q10, q11, q12] = .ok (.d (rowD r)) [q0, q1, q2, q3, .dt (dk ks), q5, q6, q7, q8, .d (rowD r), q10, q11, q12] := var_d rfl
      have j : isJ (R.dt (dk ks)) = false := (rfl)
      simp [cMut, getP, isDX, cOps, v9, Rs.bind, hdArgs, j, pop_row (h3 r List.mem_cons_self) (hm r List.mem_cons_self), setP]
    obtain ⟨d, i, hd⟩ := loopPop_ok q0 q1 q2 q3 q5 q6 q7 q8 q10 q11 q12 ts (ks.filter fun a => !decide (a = r)) (fun a ha => h3 a (List.mem_cons_of_mem _ ha)) nd'.2 (by
      intro a ha
      rw [List.mem_filter]
      refine ⟨hm a (List.mem_cons_of_mem _ ha), ?_⟩
      have : a ≠ r := fun z => nd'.1 (z ▸ ha)
      simp [this]) (.d (rowD r))
    refine ⟨d, ?_, fun _ => hd rfl⟩
    show ((bodyPop [q0, q1, q2, q3, .dt (dk ks), q5, q6, q7, q8, .d (rowD r), q10, q11, q12]).bind fun fl ρ2 => match fl with
      | .nx => forL (gN 9) bodyPop (ts.map rowD) ρ2
      | .ct => forL (gN 9) bodyPop (ts.map rowD) ρ2
      | .bk => .ok .nx ρ2
      | .rt r => .ok (.rt r) ρ2) = _
    rw [b]
    refine Eq.trans (show _ = forL (gN 9) bodyPop (ts.map rowD) [q0, q1, q2, q3, .dt (dk (ks.filter fun a => !decide (a = r))), q5, q6, q7, q8, .d (rowD r), q10, q11, q12] from rfl) (i.trans ?_)
    have : dropAll (ks.filter fun a => !decide (a = r)) ts = dropAll ks (r :: ts) := by
      unfold dropAll
      rw [List.filter_filter]
      congr 1
      funext a
      simp only [List.mem_cons]
      by_cases z : a = r <;> simp [z]
    rw [this]
end TL
set_option linter.all false
set_option maxRecDepth 100000
set_option maxHeartbeats 4000000
namespace TL
open PySem PySem.Spec PyProof.Rows L2 TP
variable [TabsOf]
theorem any_congr' {α : Type} {p q : α → Bool} {l : List α} (h : ∀ a ∈ l, p a = q a) : l.any p = l.any q := by
  induction l with
  | nil => rfl
  | cons a l ih =>
    rw [List.any_cons, List.any_cons, h a List.mem_cons_self, ih fun b hb => h b (List.mem_cons_of_mem _ hb)]
/-- the judge's way through one stage -/
def chk2 (L room : Int) (v : VV) (ks : List (List Int)) (p : Stage) : Option (List (List Int)) :=
  if (!decide (sset p.1 = p.1) || !decide (sset p.2 = p.2)) = true then none
  else if (p.2.any fun r => !decide (r ∈ ks)) = true then none
  else if (p.1.any fun r => badR L r || decide (r ∈ dropAll ks p.2)) = true then none
  else if (decide (room < ((dropAll ks p.2 ++ p.1).length : Int)) || (needsI v).any fun r => !decide (r ∈ dropAll ks p.2 ++ p.1)) = true then none
  else some (dropAll ks p.2 ++ p.1)
theorem decide_symm {α : Type} [DecidableEq α] (a b : α) : decide (a = b) = decide (b = a) := by
  by_cases h : a = b
  · subst h; rfl
  · have h' : ¬ b = a := fun z => h z.symm
    simp [h, h']
theorem chk2_eq (L room : Int) (v : VV) (ks : List (List Int)) (p : Stage) : chk2 L room v ks p = chk L room v ks p := by
  unfold chk2 chk
  rw [decide_symm (sset p.1), decide_symm (sset p.2)]
  have e : (p.1.any fun r => badR L r || decide (r ∈ dropAll ks p.2)) = (p.1.any fun r => decide (r ∈ insOf ks p) || (decide (r = W0) || !isSq L r)) := any_congr' fun r _ => by
    unfold badR insOf dropAll
    rw [Bool.or_comm]
  rw [e]
  show _ = if _ then _ else if _ then _ else if (decide (room < ((dropAll ks p.2 ++ p.1).length : Int)) || (needsI v).any fun r => !decide (r ∈ dropAll ks p.2 ++ p.1)) = true then none else some (dropAll ks p.2 ++ p.1)
  cases decide (p.1 = sset p.1) <;> cases decide (p.2 = sset p.2) <;> cases (p.2.any fun r => !decide (r ∈ ks)) <;> simp
noncomputable def bodyLP : SF := (cSeq (cAsg (cN ixK [.s 3, .s 6]) (gT [gN 7, gN 8]))
  (cSeq (cIte (fOr (cTb (cN neK [.e (cN setSortK [.s 7]), .s 7])) (cTb (cN neK [.e (cN setSortK [.s 8]), .s 8]))) (cRet (cC (.bool false))) (cNx))
  (cSeq (cIte (cTb (cN neK [.e (cComp (sList (cVar 8)) [9] (gN 9) (cTb (cN notInK2 [.s 9, .s 4])) (cVar 9)), .e (cLst [])])) (cRet (cC (.bool false))) (cNx))
  (cSeq (cFor (sList (cVar 8)) (gN 9) bodyPop)
  (cSeq (cFor (sList (cVar 7)) (gT [gN 10, gN 11, gN 12]) bodyF)
  (cSeq (cDrop (cMut 4 [] isDX updXM [.e (cComp (sList (cVar 7)) [9] (gN 9) (fYes) (cTup [.e (cVar 9), .c (.bool true)]))]))
  (cIte (fOr (cTb (cN gtK [.e (cN lenK2 [.s 4]), .s 1])) (cTb (cN neK [.e (cComp (sList (cN ixK [.s 5, .s 6])) [9] (gN 9) (cTb (cN notInK2 [.s 9, .s 4])) (cVar 9)), .e (cLst [])]))) (cRet (cC (.bool false))) (cNx))))))))
theorem set_back {ρ : List R} {i : Nat} {r : R} (h : ρ[i]? = some r) : backR ρ (ρ.set i .junk) [i] = ρ := by
  unfold backR
  simp [h]
  try (unfold backR; simp [set_self h])
end TL
set_option linter.all false
set_option maxRecDepth 100000
set_option maxHeartbeats 4000000
namespace TL
open PySem PySem.Spec PyProof.Rows L2 TP
variable [TabsOf]
theorem neK_sset {rs : List (List Int)} (ρ : List R) (i : Nat) (h : ρ[i]? = some (.d (rowsD rs))) (h3 : R3 rs) (hl : rs.length < 64) : cTb (cN neK [.e (cN setSortK [.s i]), .s i]) ρ = .ok (!decide (sset rs = rs)) ρ :=
  tb_ok (v_es (v_s (k := setSortK) h rfl (setSort_rows h3 hl)) rfl h rfl (neK_rows (sset rs) rs))
theorem bodyLP_ok (L room : Int) (hL : 1 ≤ L ∧ L ≤ 6) (wv r3 : R) (pl nv : List PyData) (k : Nat) (v : VV) (hv : VOk L v) (p : Stage) (hp : StOk 63 p) (ks : List (List Int)) (hks : ks.length ≤ 10000)
    (h3 : vw r3 = some (.list pl)) (hpk : pl[k]? = some (stepD p)) (hnk : nv[k]? = some (rowsD (needsI v))) (a b c d e f : R) (hc : slotOk (some c) = true) :
    ∃ ρ, bodyLP [dI L, dI room, wv, r3, .dt (dk ks), .ol nv, dI k, a, b, c, d, e, f] = .ok (match chk2 L room v ks p with
      | some _ => .nx
      | none => .rt (dB false)) ρ ∧ ∃ x a b c d e f, ρ = [dI L, dI room, wv, r3, x, .ol nv, dI k, a, b, c, d, e, f] ∧ slotOk (some c) = true ∧ ∀ y, chk2 L room v ks p = some y → x = .dt (dk y) := by
  obtain ⟨fs, ts⟩ := p
  obtain ⟨f3, t3, fl, tl⟩ := hp
  simp only at f3 t3 fl tl
  have hwh := hv.wh
  have s1 : cAsg (cN ixK [.s 3, .s 6]) (gT [gN 7, gN 8]) [dI L, dI room, wv, r3, .dt (dk ks), .ol nv, dI k, a, b, c, d, e, f] = .ok .nx [dI L, dI room, wv, r3, .dt (dk ks), .ol nv, dI k, .d (rowsD fs), .d (rowsD ts), c, d, e, f] := by
    have i : cN ixK [.s 3, .s 6] [dI L, dI room, wv, r3, .dt (dk ks), .ol nv, dI k, a, b, c, d, e, f] = .ok (.d (stepD (fs, ts))) [dI L, dI room, wv, r3, .dt (dk ks), .ol nv, dI k, a, b, c, d, e, f] :=
      v_ss (i := 3) (j := 6) rfl h3 rfl rfl (ix_nat hpk)
    unfold cAsg
    rw [i]; rfl
  unfold bodyLP
  rw [seq_nx s1]
  have s2 := ite_b (s := cRet (cC (.bool false))) (u := cNx) (for_b (neK_sset [dI L, dI room, wv, r3, .dt (dk ks), .ol nv, dI k, .d (rowsD fs), .d (rowsD ts), c, d, e, f] 7 rfl f3 (by omega)) (neK_sset [dI L, dI room, wv, r3, .dt (dk ks), .ol nv, dI k, .d (rowsD fs), .d (rowsD ts), c, d, e, f] 8 rfl t3 (by omega)))
  by_cases h1 : (!decide (sset fs = fs) || !decide (sset ts = ts)) = true
  · rw [if_pos h1] at s2
    have hcc : chk2 L room v ks (fs, ts) = none := if_pos h1
    rw [hcc]
    exact ⟨_, seq_rt s2, _, _, _, _, _, _, _, rfl, hc, fun y z => by cases z⟩
  rw [if_neg h1] at s2
  rw [seq_nx s2]
  have t4 := rowsAny (src := sList (cVar 8)) (t := cTb (cN notInK2 [.s 9, .s 4])) (i := 9) (ρ := [dI L, dI room, wv, r3, .dt (dk ks), .ol nv, dI k, .d (rowsD fs), .d (rowsD ts), c, d, e, f]) (rs := ts) (fun r => !decide (r ∈ ks)) rfl (by simpa using hc) rfl (set_back rfl) (by simp) (by omega) (by
    intro r hr
    exact tb_ok (v_ss (k := notInK2) (i := 9) (j := 4) (x := rowD r) rfl rfl rfl rfl (notInK2_row (t3 r hr) ks)))
  have s3 := ite_b (s := cRet (cC (.bool false))) (u := cNx) t4
  by_cases h2 : (ts.any fun r => !decide (r ∈ ks)) = true
  · rw [if_pos h2] at s3
    have hcc : chk2 L room v ks (fs, ts) = none := by unfold chk2; rw [if_neg h1, if_pos h2]
    rw [hcc]
    exact ⟨_, seq_rt s3, _, _, _, _, _, _, _, rfl, hc, fun y z => by cases z⟩
  rw [if_neg h2] at s3
  rw [seq_nx s3]
  have hsub : ∀ r ∈ ts, r ∈ ks := by
    intro r hr
    have h2' : (ts.any fun r => !decide (r ∈ ks)) = false := by simpa using h2
    rw [List.any_eq_false] at h2'
    have := h2' r hr
    simpa using this
  have e12 : fs = sset fs ∧ ts = sset ts := by
    have h1' : (!decide (sset fs = fs) || !decide (sset ts = ts)) = false := by simpa using h1
    rw [Bool.or_eq_false_iff] at h1'
    constructor
    · have := h1'.1; simp at this; exact this.symm
    · have := h1'.2; simp at this; exact this.symm
  obtain ⟨c2, i4, hc2⟩ := loopPop_ok (dI L) (dI room) wv r3 (.ol nv) (dI k) (.d (rowsD fs)) (.d (rowsD ts)) d e f ts ks t3 (sset_nodup e12.2) hsub c
  have hc2 := hc2 hc
  rw [seq_nx ((for_ok (src := sList (cVar 8)) rfl).trans i4)]
  generalize hk1 : dropAll ks ts = k1
  have lk1 : k1.length ≤ 10000 := by rw [← hk1]; exact Nat.le_trans (List.length_filter_le _ _) hks
  obtain ⟨d2, e2, f2, i5⟩ := loopF_ok L hL k1 (dI room) wv r3 (.ol nv) (dI k) (.d (rowsD fs)) (.d (rowsD ts)) c2 fs f3 d e f
  have i5 := (for_ok (src := sList (cVar 7)) (ρ := [dI L, dI room, wv, r3, .dt (dk k1), .ol nv, dI k, .d (rowsD fs), .d (rowsD ts), c2, d, e, f]) rfl).trans i5
  by_cases h4 : (fs.any fun r => badR L r || decide (r ∈ k1)) = true
  · rw [if_pos h4] at i5
    have hcc : chk2 L room v ks (fs, ts) = none := by unfold chk2; rw [if_neg h1, if_neg h2, hk1, if_pos h4]
    rw [hcc]
    exact ⟨_, seq_rt i5, _, _, _, _, _, _, _, rfl, hc2, fun y z => by cases z⟩
  rw [if_neg h4] at i5
  rw [seq_nx i5]
  have hdis : ∀ r ∈ fs, r ∉ k1 := by
    intro r hr hm
    have h4' : (fs.any fun r => badR L r || decide (r ∈ k1)) = false := by simpa using h4
    rw [List.any_eq_false] at h4'
    have := h4' r hr
    simp [hm] at this
  have cc := comp_ok (src := sList (cVar 7)) (own := [9]) (g := gN 9) (t := fYes) (f := cTup [.e (cVar 9), .c (.bool true)]) (ρ := [dI L, dI room, wv, r3, .dt (dk k1), .ol nv, dI k, .d (rowsD fs), .d (rowsD ts), c2, d2, e2, f2]) (ds := fs.map rowD) (fun _ => true) (fun x => .tuple [x, .bool true]) rfl (by simpa using hc2) rfl rfl (set_back rfl) (by rw [List.length_map]; omega) (by
    intro x hx
    obtain ⟨r, hr, rfl⟩ := List.mem_map.mp hx
    exact ⟨[dI L, dI room, wv, r3, .dt (dk k1), .ol nv, dI k, .d (rowsD fs), .d (rowsD ts), .d (rowD r), d2, e2, f2], _, rfl, rfl, (fun z => by cases z), fun _ => ⟨_, _, rfl, rfl, rfl⟩⟩)
  rw [filter_yes, List.map_map] at cc
  have u1 : cDrop (cMut 4 [] isDX updXM [.e (cComp (sList (cVar 7)) [9] (gN 9) (fYes) (cTup [.e (cVar 9), .c (.bool true)]))]) [dI L, dI room, wv, r3, .dt (dk k1), .ol nv, dI k, .d (rowsD fs), .d (rowsD ts), c2, d2, e2, f2] = .ok .nx [dI L, dI room, wv, r3, .dt (dk (k1 ++ fs)), .ol nv, dI k, .d (rowsD fs), .d (rowsD ts), c2, d2, e2, f2] := by
    refine drop_ok (r := .d .none) ?_
    have j : isJ (R.dt (dk k1)) = false := (rfl)
    have up := upd_rows (ks := k1) f3 (sset_nodup e12.1) hdis (by omega)
    have up' : updXM (.dt (dk k1)) [.ol (List.map ((fun x => PyData.tuple [x, .bool true]) ∘ rowD) fs)] = some (.dt (dk (k1 ++ fs)), .d .none) := up
    simp [cMut, getP, isDX, cOps, cc, Rs.bind, hdArgs, j, up', setP]
  rw [seq_nx u1]
  have t6 : cTb (cN gtK [.e (cN lenK2 [.s 4]), .s 1]) [dI L, dI room, wv, r3, .dt (dk (k1 ++ fs)), .ol nv, dI k, .d (rowsD fs), .d (rowsD ts), c2, d2, e2, f2] = .ok (decide (room < ((k1 ++ fs).length : Int))) [dI L, dI room, wv, r3, .dt (dk (k1 ++ fs)), .ol nv, dI k, .d (rowsD fs), .d (rowsD ts), c2, d2, e2, f2] :=
    tb_ok (v_es (v_s (k := lenK2) (i := 4) rfl rfl (len_dk _)) rfl rfl rfl rfl)
  have src7 : sList (cN ixK [.s 5, .s 6]) [dI L, dI room, wv, r3, .dt (dk (k1 ++ fs)), .ol nv, dI k, .d (rowsD fs), .d (rowsD ts), c2, d2, e2, f2] = .ok ((needsI v).map rowD) [dI L, dI room, wv, r3, .dt (dk (k1 ++ fs)), .ol nv, dI k, .d (rowsD fs), .d (rowsD ts), c2, d2, e2, f2] := by
    unfold sList
    rw [show cN ixK [.s 5, .s 6] [dI L, dI room, wv, r3, .dt (dk (k1 ++ fs)), .ol nv, dI k, .d (rowsD fs), .d (rowsD ts), c2, d2, e2, f2] = .ok (.d (rowsD (needsI v))) [dI L, dI room, wv, r3, .dt (dk (k1 ++ fs)), .ol nv, dI k, .d (rowsD fs), .d (rowsD ts), c2, d2, e2, f2] from v_ss (i := 5) (j := 6) rfl rfl rfl rfl (ix_nat hnk)]
    rfl
  have n3 : R3 (needsI v) := by
    intro r hr
    unfold needsI at hr
    have := (List.mem_filter.mp hr).1
    unfold wantsI at this
    obtain ⟨q, _, rfl⟩ := List.mem_map.mp this
    rfl
  have t7 := rowsAny (t := cTb (cN notInK2 [.s 9, .s 4])) (i := 9) (fun r => !decide (r ∈ k1 ++ fs)) src7 (by simpa using hc2) rfl (set_back rfl) (by simp) (by have := needs_len v; omega) (by
    intro r hr
    exact tb_ok (v_ss (k := notInK2) (i := 9) (j := 4) (x := rowD r) rfl rfl rfl rfl (notInK2_row (n3 r hr) (k1 ++ fs))))
  have s8 := ite_b (s := cRet (cC (.bool false))) (u := cNx) (for_b t6 t7)
  by_cases h5 : (decide (room < ((k1 ++ fs).length : Int)) || (needsI v).any fun r => !decide (r ∈ k1 ++ fs)) = true
  · rw [if_pos h5] at s8
    have hcc : chk2 L room v ks (fs, ts) = none := by unfold chk2; rw [if_neg h1, if_neg h2, hk1, if_neg h4, if_pos h5]
    rw [hcc]
    exact ⟨_, s8, _, _, _, _, _, _, _, rfl, hc2, fun y z => by cases z⟩
  · rw [if_neg h5] at s8
    have hcc : chk2 L room v ks (fs, ts) = some (k1 ++ fs) := by unfold chk2; rw [if_neg h1, if_neg h2, hk1, if_neg h4, if_neg h5]
    rw [hcc]
    exact ⟨_, s8, _, _, _, _, _, _, _, rfl, hc2, fun y z => by cases z; rfl⟩
end TL
set_option linter.all false
set_option maxRecDepth 100000
set_option maxHeartbeats 4000000
namespace TL
open PySem PySem.Spec PyProof.Rows L2 TP
variable [TabsOf]
abbrev needsD (vs : List VV) : List PyData := vs.map fun v => rowsD (needsI v)
theorem chk_len {L room : Int} {v : VV} {ins : List (List Int)} {p : Stage} {y : List (List Int)} (hp : StOk 63 p) (hcc : chk L room v ins p = some y) : y.length ≤ ins.length + 63 := by
  unfold chk at hcc
  split at hcc
  · cases hcc
  split at hcc
  · cases hcc
  split at hcc
  · cases hcc
  cases hcc
  have := insOf_len ins p
  have := hp.c
  rw [List.length_append]
  omega
theorem loopLP_ok (L room : Int) (hL : 1 ≤ L ∧ L ≤ 6) (wv r3 : R) : ∀ (vb : List VV) (pb : List Stage) (va : List VV) (pa : List Stage) (ks : List (List Int)), vb.length = pb.length → va.length = pa.length → vw r3 = some (.list (planD (pa ++ pb))) → (∀ v ∈ vb, VOk L v) → (∀ p ∈ pb, StOk 63 p) → ks.length + 63 * pb.length ≤ 10000 → ∀ (m a b c d e f : R), slotOk (some c) = true →
    ∃ x m' a' b' c' d' e' f', forL (gN 6) bodyLP (rngD (va.length : Int) vb.length) [dI L, dI room, wv, r3, .dt (dk ks), .ol (needsD (va ++ vb)), m, a, b, c, d, e, f] = .ok (if chks L room vb pb ks = true then .nx else .rt (dB false)) [dI L, dI room, wv, r3, x, .ol (needsD (va ++ vb)), m', a', b', c', d', e', f']
  | [], [], va, pa, ks, _, _, _, _, _, _, m, a, b, c, d, e, f, _ => ⟨_, m, a, b, c, d, e, f, rfl⟩
  | [], _ :: _, _, _, _, h, _, _, _, _, _, _, _, _, _, _, _, _, _ => by cases h
  | _ :: _, [], _, _, _, h, _, _, _, _, _, _, _, _, _, _, _, _, _ => by cases h
  | v :: vb, p :: pb, va, pa, ks, hl, hla, h3, hv, hp, hk, m, a, b, c, d, e, f, hc => by
    have hpk : (planD (pa ++ p :: pb))[va.length]? = some (stepD p) := by
      unfold planD
      rw [List.getElem?_map, hla, List.getElem?_append_right (Nat.le_refl _)]
      simp
    have hnk : (needsD (va ++ v :: vb))[va.length]? = some (rowsD (needsI v)) := by
      unfold needsD
      rw [List.getElem?_map, List.getElem?_append_right (Nat.le_refl _)]
      simp
    obtain ⟨ρ, i, x, a', b', c', d', e', f', rfl, hc', hx⟩ := bodyLP_ok L room hL wv r3 _ _ va.length v (hv v List.mem_cons_self) p (hp p List.mem_cons_self) ks (by omega) h3 hpk hnk a b c d e f hc
    rw [List.length_cons, rng_cons]
    show ∃ x m' a' b' c' d' e' f', ((bodyLP [dI L, dI room, wv, r3, .dt (dk ks), .ol (needsD (va ++ v :: vb)), dI va.length, a, b, c, d, e, f]).bind fun fl ρ2 => match fl with
      | .nx => forL (gN 6) bodyLP (rngD ((va.length : Int) + 1) vb.length) ρ2
      | .ct => forL (gN 6) bodyLP (rngD ((va.length : Int) + 1) vb.length) ρ2
      | .bk => .ok .nx ρ2
      | .rt r => .ok (.rt r) ρ2) = .ok (if chks L room (v :: vb) (p :: pb) ks = true then .nx else .rt (dB false)) [dI L, dI room, wv, r3, x, .ol (needsD (va ++ v :: vb)), m', a', b', c', d', e', f']
    rw [i]
    rw [chk2_eq] at hx ⊢
    have hs : chks L room (v :: vb) (p :: pb) ks = match chk L room v ks p with
      | some ins' => chks L room vb pb ins'
      | none => false := (rfl)
    cases hcc : chk L room v ks p with
    | none =>
      rw [hcc] at hs
      rw [hs]
      exact ⟨_, _, _, _, _, _, _, _, rfl⟩
    | some y =>
      rw [hcc] at hs
      rw [hs, hx y hcc]
      have ly := chk_len (hp p List.mem_cons_self) hcc
      obtain ⟨x2, m2, a2, b2, c2, d2, e2, f2, i2⟩ := loopLP_ok L room hL wv r3 vb pb (va ++ [v]) (pa ++ [p]) y (by simpa using hl) (by simp [hla]) (by rw [List.append_assoc]; exact h3) (fun v h => hv v (List.mem_cons_of_mem _ h)) (fun p h => hp p (List.mem_cons_of_mem _ h)) (by rw [List.length_cons] at hk; omega) (dI va.length) a' b' c' d' e' f' hc'
      rw [List.append_assoc, List.length_append] at i2
      exact ⟨_, _, _, _, _, _, _, _, i2⟩
theorem law_is_plan_ok (L room : Int) (hL : 1 ≤ L ∧ L ≤ 6) (vs : List VV) (hv : ∀ v ∈ vs, VOk L v) (hl : 1 ≤ vs.length ∧ vs.length ≤ 12) (ps : List Stage) (hp : ∀ p ∈ ps, StOk 63 p) (hpl : ps.length ≤ 100) (r3 : R) (h3 : vw r3 = some (.list (planD ps))) :
    g__law_is_plan [dI L, dI room, .d (.list (viewsD vs)), r3] = .ok (dB (isPl L room vs ps)) [dI L, dI room, .d (.list (viewsD vs)), r3] := by
  have lenv : (viewsD vs).length = vs.length := by unfold viewsD; simp
  have lenp : (planD ps).length = ps.length := by unfold planD; simp
  have nj : isJ r3 = false := jV h3
  have n1 : neK [.int (((planD ps).length : Nat) : Int), .int (((viewsD vs).length : Nat) : Int)] = some (dB (!decide (ps.length = vs.length))) := by
    have e : neK [.int (((planD ps).length : Nat) : Int), .int (((viewsD vs).length : Nat) : Int)] = some (.d (.bool (!PyData.eqv (.int (((planD ps).length : Nat) : Int)) (.int (((viewsD vs).length : Nat) : Int))))) := (rfl)
    rw [e, lenp, lenv]
    simp [PyData.eqv]
    by_cases z : ps.length = vs.length
    · simp [z]
    · have : ¬ ((ps.length : Int) = (vs.length : Int)) := by omega
      simp [z, this]
  have t2 : cTb (cN neK [.e (cN lenK [.s 3]), .e (cN lenK [.s 2])]) [dI L, dI room, .d (.list (viewsD vs)), r3, .junk, .junk, .junk, .junk, .junk, .junk, .junk, .junk, .junk] = .ok (!decide (ps.length = vs.length)) [dI L, dI room, .d (.list (viewsD vs)), r3, .junk, .junk, .junk, .junk, .junk, .junk, .junk, .junk, .junk] :=
    tb_ok (v_ee (v_s (k := lenK) (i := 3) (r := r3) rfl h3 rfl) rfl (v_s (k := lenK) (i := 2) rfl rfl rfl) rfl n1)
  have s2 := ite_b (s := cRet (cC (.bool false))) (u := cNx) t2
  by_cases hle : ps.length = vs.length
  · rw [decide_eq_true hle] at s2
    have s2' : cIte (cTb (cN neK [.e (cN lenK [.s 3]), .e (cN lenK [.s 2])])) (cRet (cC (.bool false))) (cNx) [dI L, dI room, .d (.list (viewsD vs)), r3, .junk, .junk, .junk, .junk, .junk, .junk, .junk, .junk, .junk] = .ok .nx [dI L, dI room, .d (.list (viewsD vs)), r3, .junk, .junk, .junk, .junk, .junk, .junk, .junk, .junk, .junk] := s2
    have s3 : cSet 4 cDict0 [dI L, dI room, .d (.list (viewsD vs)), r3, .junk, .junk, .junk, .junk, .junk, .junk, .junk, .junk, .junk] = .ok .nx [dI L, dI room, .d (.list (viewsD vs)), r3, .dt (dk []), .junk, .junk, .junk, .junk, .junk, .junk, .junk, .junk] := (rfl)
    have s4 : cSet 5 (cCall g__law_needs [.s 2]) [dI L, dI room, .d (.list (viewsD vs)), r3, .dt (dk []), .junk, .junk, .junk, .junk, .junk, .junk, .junk, .junk] = .ok .nx [dI L, dI room, .d (.list (viewsD vs)), r3, .dt (dk []), .ol (needsD ([] ++ vs)), .junk, .junk, .junk, .junk, .junk, .junk, .junk] :=
      cSet_ok (call_s (i := 2) rfl (needs_ok L vs hv (by omega) _ rfl))
    have src : sRng rng1 [.e (cN lenK [.s 2])] [dI L, dI room, .d (.list (viewsD vs)), r3, .dt (dk []), .ol (needsD ([] ++ vs)), .junk, .junk, .junk, .junk, .junk, .junk, .junk] = .ok (rngD (([] : List VV).length : Int) vs.length) [dI L, dI room, .d (.list (viewsD vs)), r3, .dt (dk []), .ol (needsD ([] ++ vs)), .junk, .junk, .junk, .junk, .junk, .junk, .junk] := by
      have := src_rng1_e (f := cN lenK [.s 2]) (n := ((viewsD vs).length : Nat)) (ρ := [dI L, dI room, .d (.list (viewsD vs)), r3, .dt (dk []), .ol (needsD ([] ++ vs)), .junk, .junk, .junk, .junk, .junk, .junk, .junk]) (v_s (i := 2) rfl rfl rfl) (by omega)
      rw [lenv] at this
      exact this
    obtain ⟨x, m, a, b, c, d, e, f, i⟩ := loopLP_ok L room hL (.d (.list (viewsD vs))) r3 vs ps [] [] [] hle.symm rfl h3 hv hp (by simp; omega) .junk .junk .junk .junk .junk .junk .junk rfl
    have hfor := (for_ok src).trans i
    have hip : isPl L room vs ps = chks L room vs ps [] := by unfold isPl; simp [hle]
    rw [hip]
    refine (run_rt (ρ := [dI L, dI room, .d (.list (viewsD vs)), r3, x, .ol (needsD ([] ++ vs)), m, a, b, c, d, e, f]) rfl ?_).trans rfl
    show p__law_is_plan [dI L, dI room, .d (.list (viewsD vs)), r3, .junk, .junk, .junk, .junk, .junk, .junk, .junk, .junk, .junk] = _
    unfold p__law_is_plan
    rw [seq_nx s2', seq_nx s3, seq_nx s4]
    cases hc : chks L room vs ps [] with
    | true =>
      rw [hc, if_pos rfl] at hfor
      exact (seq_nx hfor).trans rfl
    | false =>
      rw [hc, if_neg (by simp)] at hfor
      exact seq_rt hfor
  · rw [decide_eq_false hle] at s2
    have hip : isPl L room vs ps = false := by unfold isPl; simp [hle]
    rw [hip]
    refine (run_rt (ρ := [dI L, dI room, .d (.list (viewsD vs)), r3, .junk, .junk, .junk, .junk, .junk, .junk, .junk, .junk, .junk]) rfl ?_).trans rfl
    show p__law_is_plan [dI L, dI room, .d (.list (viewsD vs)), r3, .junk, .junk, .junk, .junk, .junk, .junk, .junk, .junk, .junk] = _
    unfold p__law_is_plan
    exact seq_rt s2
end TL
set_option linter.all false
set_option maxRecDepth 100000
set_option maxHeartbeats 4000000
namespace TL
open PySem PySem.Spec PyProof.Rows L2 TP
variable [TabsOf]
theorem split_len {α : Type} (p : α → Bool) : ∀ l : List α, l.length = (l.filter p).length + (l.filter fun a => !p a).length
  | [] => rfl
  | a :: l => by
    have ih := split_len p l
    cases h : p a <;> simp [List.filter_cons, h] <;> omega
theorem wants_nodup {L : Int} {v : VV} (hv : VOk L v) : (wantsI v).Nodup := by
  obtain ⟨l, x, y, wd, ht⟩ := v
  have hh := hv.h0
  simp only at hh
  unfold wantsI
  refine List.Pairwise.map (R := fun (a b : Nat) => a ≠ b) _ ?_ List.nodup_range
  intro a b hab e
  simp only [List.cons.injEq, and_true, true_and] at e
  have e1 : (a : Int) / ht = (b : Int) / ht := by omega
  have e2 : (a : Int) % ht = (b : Int) % ht := by omega
  have ha := Int.mul_ediv_add_emod (a : Int) ht
  have hb := Int.mul_ediv_add_emod (b : Int) ht
  rw [e1, e2] at ha
  exact hab (by omega)
theorem needs_nodup {L : Int} {v : VV} (hv : VOk L v) : (needsI v).Nodup := by
  unfold needsI
  exact (wants_nodup hv).filter _
theorem wants_sq {L : Int} {v : VV} (hv : VOk L v) {r : List Int} (h : r ∈ wantsI v) : isSq L r = true ∧ r.length = 3 := by
  obtain ⟨l, x, y, wd, ht⟩ := v
  obtain ⟨a0, a1, a2, a3, a4, a5, a6, a7, a8⟩ := hv
  simp only at a0 a1 a2 a3 a4 a5 a6 a7 a8
  unfold wantsI at h
  obtain ⟨k, hk, rfl⟩ := List.mem_map.mp h
  have hk := List.mem_range.mp hk
  simp only at hk
  refine ⟨?_, rfl⟩
  have hk' : (k : Int) < wd * ht := by omega
  have d1 : (k : Int) / ht < wd := Int.ediv_lt_of_lt_mul (by omega) hk'
  have d0 : 0 ≤ (k : Int) / ht := Int.ediv_nonneg (by omega) (by omega)
  have m0 := Int.emod_nonneg (k : Int) (show ht ≠ 0 by omega)
  have m1 := Int.emod_lt_of_pos (k : Int) (show 0 < ht by omega)
  unfold isSq
  simp only [decide_eq_true_eq]
  omega
theorem needs_sq {L : Int} {v : VV} (hv : VOk L v) {r : List Int} (h : r ∈ needsI v) : isSq L r = true ∧ r ≠ W0 ∧ r.length = 3 := by
  unfold needsI at h
  obtain ⟨h1, h2⟩ := List.mem_filter.mp h
  have := wants_sq hv h1
  exact ⟨this.1, by simpa using h2, this.2⟩
abbrev srt (rs : List (List Int)) : List (List Int) := rs.mergeSort leI
theorem srt_perm (rs : List (List Int)) : (srt rs).Perm rs := List.mergeSort_perm _ _
theorem srt_mem {rs : List (List Int)} {r : List Int} : r ∈ srt rs ↔ r ∈ rs := (srt_perm rs).mem_iff
theorem srt_sset {rs : List (List Int)} (nd : rs.Nodup) : srt rs = sset (srt rs) := by
  refine sset_is ((srt_perm rs).nodup_iff.mpr nd) ?_ fun a => Iff.rfl
  exact (List.pairwise_mergeSort leI_trans leI_total rs).imp fun h => of_decide_eq_true h
/-- those inside that are not thrown: as many as the rest -/
theorem filter_len {ins ts : List (List Int)} (nd : ins.Nodup) (nt : ts.Nodup) (hs : ∀ r ∈ ts, r ∈ ins) : (ins.filter fun r => !decide (r ∈ ts)).length + ts.length = ins.length := by
  have p : (ins.filter fun r => decide (r ∈ ts)).Perm ts := (List.perm_ext_iff_of_nodup (nd.filter _) nt).mpr fun a => by
    rw [List.mem_filter]
    constructor
    · intro h; simpa using h.2
    · intro h; exact ⟨hs a h, by simpa using h⟩
  have e := split_len (fun r => decide (r ∈ ts)) ins
  have := p.length_eq
  omega
structure FetOk (L : Int) (ins : List (List Int)) (fs : List (List Int)) : Prop where
  nd : fs.Nodup
  out : ∀ r ∈ fs, r ∉ ins
  sq : ∀ r ∈ fs, isSq L r = true ∧ r ≠ W0 ∧ r.length = 3
theorem stage_ok {L room : Int} {v : VV} (hv : VOk L v) {ins cins fs ts : List (List Int)} (nd : ins.Nodup) (hc : cins.Perm ins) (hf : FetOk L ins fs) (nt : ts.Nodup) (hts : ∀ r ∈ ts, r ∈ ins) (htn : ∀ r ∈ ts, r ∉ needsI v) (hn : ∀ r ∈ needsI v, r ∈ ins ∨ r ∈ fs) (hl : (ins.length : Int) - ts.length + fs.length ≤ room) :
    ∃ c', chk L room v cins (srt fs, srt ts) = some c' ∧ c'.Perm ((ins.filter fun r => !decide (r ∈ ts)) ++ fs) ∧ ((ins.filter fun r => !decide (r ∈ ts)) ++ fs).Nodup ∧ (((ins.filter fun r => !decide (r ∈ ts)) ++ fs).length : Int) ≤ room := by
  have p1 : (insOf cins (srt fs, srt ts)).Perm (ins.filter fun r => !decide (r ∈ ts)) := by
    unfold insOf
    have e : (fun r => !decide (r ∈ srt ts)) = fun r => !decide (r ∈ ts) := by
      funext r
      simp only [srt_mem]
    show (cins.filter fun r => !decide (r ∈ srt ts)).Perm _
    rw [e]
    exact hc.filter _
  have p2 : (insOf cins (srt fs, srt ts) ++ srt fs).Perm ((ins.filter fun r => !decide (r ∈ ts)) ++ fs) := p1.append (srt_perm fs)
  have fl := filter_len nd nt hts
  have hlen : (((ins.filter fun r => !decide (r ∈ ts)) ++ fs).length : Int) ≤ room := by
    rw [List.length_append]
    omega
  refine ⟨insOf cins (srt fs, srt ts) ++ srt fs, ?_, p2, ?_, hlen⟩
  · unfold chk
    rw [if_neg, if_neg, if_neg]
    · have l2 := p2.length_eq
      rw [Bool.not_eq_true, Bool.or_eq_false_iff]
      constructor
      · rw [decide_eq_false_iff_not]
        show ¬ room < (((insOf cins (srt fs, srt ts) ++ srt fs).length : Nat) : Int)
        omega
      · rw [List.any_eq_false]
        intro r hr
        have : r ∈ insOf cins (srt fs, srt ts) ++ srt fs := by
          rw [p2.mem_iff, List.mem_append, List.mem_filter]
          rcases hn r hr with h | h
          · exact Or.inl ⟨h, by
              have : r ∉ ts := fun z => htn r z hr
              simpa using this⟩
          · exact Or.inr h
        simp only [this, decide_true, Bool.not_true, Bool.false_eq_true, not_false_eq_true]
    · rw [Bool.not_eq_true, List.any_eq_false]
      intro r hr
      have hr' : r ∈ fs := srt_mem.mp hr
      have s := hf.sq r hr'
      have : r ∉ insOf cins (srt fs, srt ts) := by
        rw [p1.mem_iff, List.mem_filter]
        intro z
        exact hf.out r hr' z.1
      simp [this, s.1, s.2.1]
    · rw [Bool.not_eq_true]
      show (!decide (srt fs = sset (srt fs)) || (!decide (srt ts = sset (srt ts)) || (srt ts).any fun r => !decide (r ∈ cins))) = false
      rw [decide_eq_true (srt_sset hf.nd), decide_eq_true (srt_sset nt)]
      simp only [Bool.not_true, Bool.false_or]
      rw [List.any_eq_false]
      intro r hr
      have : r ∈ cins := hc.mem_iff.mpr (hts r (srt_mem.mp hr))
      simp [this]
  · rw [List.nodup_append]
    refine ⟨nd.filter _, hf.nd, ?_⟩
    intro a ha b hb e
    subst e
    exact hf.out a hb (List.mem_filter.mp ha).1
end TL
set_option linter.all false
set_option maxRecDepth 100000
set_option maxHeartbeats 4000000
namespace TL
open PySem PySem.Spec PyProof.Rows L2 TP
variable [TabsOf]
theorem sorted_rows {rs : List (List Int)} (h3 : R3 rs) (hl : rs.length ≤ 100000) : TP.sortedK [.list (rs.map rowD)] = some (.ol ((srt rs).map rowD)) := by
  unfold TP.sortedK
  simp only
  rw [if_pos]
  · have e : (rs.mergeSort leI).map rowD = (rs.map rowD).mergeSort (PySem.W.dataLe false id) := by
      refine List.map_mergeSort fun a _ b _ => ?_
      have := congrFun (congrFun (dataLe_tints (fun r : List Int => r)) a) b
      exact this.symm
    rw [← e]
  · refine ⟨?_, ?_, by rw [List.length_map]; exact hl, ?_⟩
    · intro d hd d' hd'
      obtain ⟨r, _, rfl⟩ := List.mem_map.mp hd
      obtain ⟨r', _, rfl⟩ := List.mem_map.mp hd'
      exact alike_tints r r'
    · refine Or.inl fun d hd => ?_
      obtain ⟨r, hr, rfl⟩ := List.mem_map.mp hd
      obtain ⟨l, x, y, rfl⟩ := three (h3 r hr)
      exact ⟨_, _, rfl⟩
    · intro d hd
      obtain ⟨r, hr, rfl⟩ := List.mem_map.mp hd
      have := PySem.W.depth_ints r
      unfold rowD
      rw [PyData.depth]
      omega
theorem toD_row (r : List Int) : toD (.d (rowD r)) = some (rowD r) := (rfl)
theorem cons_erase {α : Type} : ∀ (l : List α) (i : Nat) (h : i < l.length), (l[i] :: l.eraseIdx i).Perm l
  | [], _, h => by cases h
  | a :: l, 0, _ => List.Perm.refl _
  | a :: l, i + 1, h => by
    have ih := cons_erase l i (by simpa using h)
    show (l[i]'(by simpa using h) :: a :: l.eraseIdx i).Perm (a :: l)
    exact (List.Perm.swap _ _ _).trans (ih.cons a)
theorem map_erase {α β : Type} (f : α → β) : ∀ (l : List α) (i : Nat), (l.map f).eraseIdx i = (l.eraseIdx i).map f
  | [], _ => rfl
  | a :: l, 0 => rfl
  | a :: l, i + 1 => by simp [List.eraseIdx, map_erase f l i]
/-- left.pop(choice), its choice at slot 0 -/
noncomputable def tW : TF := (fOr (cTb (cN gtK [.e (cN addK [.e (cN subK [.e (cN lenK [.s 5]), .e (cN lenK [.s 10])]), .e (cN lenK [.s 7])]), .s 2])) (fAnd (cTb (cN neK [.s 9, .e (cLst [])])) (cTb (cN eqK [.e (cCall g__law_next [.s 0, .c (.int 5)]), .c (.int 4)]))))
noncomputable def bW : SF := cDrop (cMut 10 [] isList appendM [.e (cMut 9 [] isList popM [.e (cCall g__law_next [.s 0, .e (cN lenK [.s 9])])])])
abbrev stW (h : Hs) (L room : Int) (q3 q4 : R) (ins : List (List Int)) (q6 : R) (fs : List (List Int)) (q8 : R) (lf th : List (List Int)) (q11 : R) : List R := [rH h, dI L, dI room, q3, q4, .d (rowsD ins), q6, .ol (fs.map rowD), q8, .ol (lf.map rowD), .ol (th.map rowD), q11]
theorem tW_ok (h : Hs) (ok : Hok h) (L room : Int) (q3 q4 q6 q8 q11 : R) (ins fs lf th : List (List Int)) :
    ∃ b h', tW (stW h L room q3 q4 ins q6 fs q8 lf th q11) = .ok b (stW h' L room q3 q4 ins q6 fs q8 lf th q11) ∧ Hok h' ∧ (b = true → room < (ins.length : Int) - th.length + fs.length ∨ lf ≠ []) ∧ (b = false → (ins.length : Int) - th.length + fs.length ≤ room) := by
  have t1 : cTb (cN gtK [.e (cN addK [.e (cN subK [.e (cN lenK [.s 5]), .e (cN lenK [.s 10])]), .e (cN lenK [.s 7])]), .s 2]) (stW h L room q3 q4 ins q6 fs q8 lf th q11) = .ok (decide (room < (ins.length : Int) - th.length + fs.length)) (stW h L room q3 q4 ins q6 fs q8 lf th q11) := by
    have a1 : cN lenK [.s 5] (stW h L room q3 q4 ins q6 fs q8 lf th q11) = .ok (dI ins.length) (stW h L room q3 q4 ins q6 fs q8 lf th q11) := v_s (i := 5) rfl rfl (by show some (dI ((ins.map rowD).length : Nat)) = _; rw [List.length_map])
    have a2 : cN lenK [.s 10] (stW h L room q3 q4 ins q6 fs q8 lf th q11) = .ok (dI th.length) (stW h L room q3 q4 ins q6 fs q8 lf th q11) := v_s (i := 10) rfl rfl (by show some (dI ((th.map rowD).length : Nat)) = _; rw [List.length_map])
    have a3 : cN lenK [.s 7] (stW h L room q3 q4 ins q6 fs q8 lf th q11) = .ok (dI fs.length) (stW h L room q3 q4 ins q6 fs q8 lf th q11) := v_s (i := 7) rfl rfl (by show some (dI ((fs.map rowD).length : Nat)) = _; rw [List.length_map])
    exact tb_ok (v_es (k := gtK) (i := 2) (v_ee (k := addK) (v_ee (k := subK) a1 rfl a2 rfl rfl) rfl a3 rfl rfl) rfl rfl rfl rfl)
  unfold tW
  by_cases h1 : room < (ins.length : Int) - th.length + fs.length
  · rw [decide_eq_true h1] at t1
    exact ⟨true, h, for_t t1, ok, fun _ => Or.inl h1, fun z => by cases z⟩
  · rw [decide_eq_false h1] at t1
    rw [for_f t1]
    have t2 : cTb (cN neK [.s 9, .e (cLst [])]) (stW h L room q3 q4 ins q6 fs q8 lf th q11) = .ok (!decide (lf = [])) (stW h L room q3 q4 ins q6 fs q8 lf th q11) :=
      tb_ok (v_se (k := neK) (i := 9) rfl rfl (show cLst [] _ = .ok (.ol []) _ from rfl) rfl rfl (neK_rows lf []))
    by_cases h2 : lf = []
    · rw [decide_eq_true h2] at t2
      exact ⟨false, h, fand_f t2, ok, fun z => (by cases z), fun _ => by omega⟩
    · rw [decide_eq_false h2] at t2
      have t2' := fand_t (g := cTb (cN eqK [.e (cCall g__law_next [.s 0, .c (.int 5)]), .c (.int 4)])) t2
      rw [t2']
      obtain ⟨r1, h', c1, a1, b1, k1⟩ := nx_c h ok 5 (by omega) [dI L, dI room, q3, q4, .d (rowsD ins), q6, .ol (fs.map rowD), q8, .ol (lf.map rowD), .ol (th.map rowD), q11]
      exact ⟨_, h', tb_ok (v_ec (k := eqK) c1 rfl (eqK_int r1 4)), k1, fun _ => Or.inr h2, fun _ => by omega⟩
theorem bW_ok (h : Hs) (ok : Hok h) (L room : Int) (q3 q4 q6 q8 q11 : R) (ins fs lf th : List (List Int)) (hl : lf ≠ []) (hll : lf.length ≤ 1000) (htl : th.length ≤ 1000) :
    ∃ h' r lf', bW (stW h L room q3 q4 ins q6 fs q8 lf th q11) = .ok .nx (stW h' L room q3 q4 ins q6 fs q8 lf' (th ++ [r]) q11) ∧ Hok h' ∧ (r :: lf').Perm lf := by
  have hp : 0 < lf.length := List.length_pos_iff.mpr hl
  have a1 : cN lenK [.s 9] (stW h L room q3 q4 ins q6 fs q8 lf th q11) = .ok (dI lf.length) (stW h L room q3 q4 ins q6 fs q8 lf th q11) := v_s (i := 9) rfl rfl (by show some (dI ((lf.map rowD).length : Nat)) = _; rw [List.length_map])
  obtain ⟨i, h', c1, b1, b2, k1⟩ := nx_e h h ok lf.length (by omega) _ _ _ a1
  obtain ⟨j, rfl⟩ := Int.eq_ofNat_of_zero_le b1
  have hj : j < lf.length := by omega
  have pm : popM (.ol (lf.map rowD)) [dI (j : Int)] = some (.ol ((lf.eraseIdx j).map rowD), .d (rowD lf[j])) := by
    have ej : ixN (lf.map rowD).length (j : Int) = some j := by
      unfold ixN
      simp [hj]
      try omega
    show (ixN (lf.map rowD).length (j : Int)).bind (fun j => if (lf.map rowD).length ≤ 100000 then ((lf.map rowD)[j]?).map fun x => (R.ol ((lf.map rowD).eraseIdx j), R.d x) else none) = _
    rw [ej, Option.bind_some, if_pos (by rw [List.length_map]; omega), map_erase, List.getElem?_map, List.getElem?_eq_getElem hj]
    rfl
  have m1 : cMut 9 [] isList popM [.e (cCall g__law_next [.s 0, .e (cN lenK [.s 9])])] (stW h L room q3 q4 ins q6 fs q8 lf th q11) = .ok (.d (rowD lf[j])) (stW h' L room q3 q4 ins q6 fs q8 (lf.eraseIdx j) th q11) := by
    have jj : isJ (R.ol (lf.map rowD)) = false := (rfl)
    simp [cMut, getP, isList, cOps, c1, Rs.bind, hdArgs, jj, pm, setP]
  refine ⟨h', lf[j], lf.eraseIdx j, ?_, k1, ?_⟩
  · unfold bW
    have := app_ok (i := 10) (xs := th.map rowD) (ρ := stW h L room q3 q4 ins q6 fs q8 lf th q11) rfl m1 rfl (toD_row lf[j]) (by rw [List.length_map]; omega)
    rw [drop_ok this]
    simp
  · exact cons_erase lf j hj
end TL
set_option linter.all false
set_option maxRecDepth 100000
set_option maxHeartbeats 4000000
namespace TL
open PySem PySem.Spec PyProof.Rows L2 TP
variable [TabsOf]
theorem while_ok (L room : Int) (q3 q4 q6 q8 q11 : R) (ins fs left0 : List (List Int)) (hk : (ins.length : Int) - left0.length + fs.length ≤ room) (hl0 : left0.length ≤ 1000) : ∀ (n : Nat) (h : Hs) (lf th : List (List Int)), Hok h → (lf ++ th).Perm left0 → lf.length < n →
    ∃ h' lf' th', cWhile tW bW n (stW h L room q3 q4 ins q6 fs q8 lf th q11) = .ok .nx (stW h' L room q3 q4 ins q6 fs q8 lf' th' q11) ∧ Hok h' ∧ (lf' ++ th').Perm left0 ∧ (ins.length : Int) - th'.length + fs.length ≤ room
  | 0, _, _, _, _, _, hn => by omega
  | n + 1, h, lf, th, ok, hp, hn => by
    have hlen := hp.length_eq
    rw [List.length_append] at hlen
    obtain ⟨b, h1, e1, k1, c1, c2⟩ := tW_ok h ok L room q3 q4 q6 q8 q11 ins fs lf th
    cases b with
    | false =>
      refine ⟨h1, lf, th, ?_, k1, hp, c2 rfl⟩
      unfold cWhile
      simp only [e1, Rs.bind]
      rfl
    | true =>
      have hne : lf ≠ [] := by
        rcases c1 rfl with z | z
        · intro e
          rw [e] at hlen
          simp at hlen
          omega
        · exact z
      obtain ⟨h2, r, lf2, e2, k2, p2⟩ := bW_ok h1 k1 L room q3 q4 q6 q8 q11 ins fs lf th hne (by omega) (by omega)
      have l2 := p2.length_eq
      rw [List.length_cons] at l2
      have hp2 : (lf2 ++ (th ++ [r])).Perm left0 := by
        refine List.Perm.trans ?_ hp
        rw [← List.append_assoc]
        refine (List.perm_append_singleton r (lf2 ++ th)).trans ?_
        exact p2.append_right th
      obtain ⟨h3, lf3, th3, e3, k3, p3, c3⟩ := while_ok L room q3 q4 q6 q8 q11 ins fs left0 hk hl0 n h2 lf2 (th ++ [r]) k2 hp2 (by omega)
      refine ⟨h3, lf3, th3, ?_, k3, p3, c3⟩
      unfold cWhile
      simp only [e1, Rs.bind, e2, if_true]
      exact e3
/-! ### one stage made -/
abbrev stM (h : Hs) (L room : Int) (q3 : R) (ps : List PyData) (ins : List (List Int)) (q6 q7 q8 q9 q10 : R) : List R := [rH h, dI L, dI room, q3, .ol ps, .ol (ins.map rowD), q6, q7, q8, q9, q10, .junk]
theorem fetch_ok (h : Hs) (L room : Int) (q3 : R) (ps : List PyData) (ins sm : List (List Int)) (q7 q8 q9 q10 : R) (hl : sm.length ≤ 1000) :
    cSet 7 (cComp (sList (cVar 6)) [11] (gN 11) (cTb (cN notInK [.s 11, .s 5])) (cVar 11)) (stM h L room q3 ps ins (.d (rowsD sm)) q7 q8 q9 q10) = .ok .nx (stM h L room q3 ps ins (.d (rowsD sm)) (.ol ((sm.filter fun r => !decide (r ∈ ins)).map rowD)) q8 q9 q10) :=
  cSet_ok (rowsf (src := sList (cVar 6)) (t := cTb (cN notInK [.s 11, .s 5])) (i := 11) (ρ := stM h L room q3 ps ins (.d (rowsD sm)) q7 q8 q9 q10) (rs := sm) (fun r => !decide (r ∈ ins)) rfl rfl rfl rfl (by simp) (by omega) (by
    intro r hr
    exact tb_ok (v_ss (k := notInK) (i := 11) (j := 5) (x := rowD r) rfl rfl rfl rfl (notInK_row r ins))))
noncomputable def moreS : SF := (cIte (fAnd (cTb (cN gtK [.s 1, .c (.int 1)])) (fAnd (cTb (cN ltK [.e (cN addK [.e (cN lenK [.s 5]), .e (cN lenK [.s 7])]), .s 2])) (cTb (cN eqK [.e (cCall g__law_next [.s 0, .c (.int 3)]), .c (.int 2)])))) (cSeq (cSet 8 (cTup [.e (cN subK [.s 1, .c (.int 1)]), .e (cCall g__law_next [.s 0, .e (cCall g__law_side [.e (cN subK [.s 1, .c (.int 1)])])]), .c (.int 0)]))
  (cSet 7 (cN addK [.s 7, .e (cRep (cLst [.e (cVar 8)]) (cN intK [.e (cN notInK [.s 8, .e (cN addK [.s 5, .s 7])])]))]))) (cNx))
theorem side_e {ρ ρ1 : List R} {f : EF} {l : Int} (h : 0 ≤ l ∧ l < 6) (hf : f ρ = .ok (dI l) ρ1) : cCall g__law_side [.e f] ρ = .ok (dI (sideI l)) ρ1 := by
  simp [cCall, cOps, hf, Rs.bind, takeHs, side_ok l h, putHs]
theorem rep_b {ρ ρ1 ρ2 : List R} {f g : EF} {x : PyData} {b : Bool} (hf : f ρ = .ok (.ol [x]) ρ1) (hg : g ρ1 = .ok (dB b) ρ2) : cRep f (cN intK [.e g]) ρ = .ok (.ol (if b = true then [x] else [])) ρ2 := by
  have i : cN intK [.e g] ρ1 = .ok (dI (if b = true then 1 else 0)) ρ2 := v_e hg rfl (by cases b <;> rfl)
  cases b <;> simp [cRep, hf, Rs.bind, i, asI]
theorem more_ok (h : Hs) (ok : Hok h) (L room : Int) (hL : 1 ≤ L ∧ L ≤ 6) (q3 : R) (ps : List PyData) (ins fs : List (List Int)) (q6 q8 q9 q10 : R) (li : ins.length ≤ 1000) (lf : fs.length ≤ 1000) (fo : FetOk L ins fs) :
    ∃ h' fs' q8', moreS (stM h L room q3 ps ins q6 (.ol (fs.map rowD)) q8 q9 q10) = .ok .nx (stM h' L room q3 ps ins q6 (.ol (fs'.map rowD)) q8' q9 q10) ∧ Hok h' ∧ FetOk L ins fs' ∧ (∀ r ∈ fs, r ∈ fs') ∧ fs'.length ≤ fs.length + 1 ∧ (fs' = fs ∨ (ins.length : Int) + fs'.length ≤ room) := by
  have a1 : cN lenK [.s 5] (stM h L room q3 ps ins q6 (.ol (fs.map rowD)) q8 q9 q10) = .ok (dI ins.length) (stM h L room q3 ps ins q6 (.ol (fs.map rowD)) q8 q9 q10) := v_s (i := 5) rfl rfl (by show some (dI ((ins.map rowD).length : Nat)) = _; rw [List.length_map])
  have a3 : cN lenK [.s 7] (stM h L room q3 ps ins q6 (.ol (fs.map rowD)) q8 q9 q10) = .ok (dI fs.length) (stM h L room q3 ps ins q6 (.ol (fs.map rowD)) q8 q9 q10) := v_s (i := 7) rfl rfl (by show some (dI ((fs.map rowD).length : Nat)) = _; rw [List.length_map])
  have t1 : cTb (cN gtK [.s 1, .c (.int 1)]) (stM h L room q3 ps ins q6 (.ol (fs.map rowD)) q8 q9 q10) = .ok (decide (1 < L)) (stM h L room q3 ps ins q6 (.ol (fs.map rowD)) q8 q9 q10) := tb_ok (v_sc (k := gtK) (i := 1) rfl rfl rfl)
  have t2 : cTb (cN ltK [.e (cN addK [.e (cN lenK [.s 5]), .e (cN lenK [.s 7])]), .s 2]) (stM h L room q3 ps ins q6 (.ol (fs.map rowD)) q8 q9 q10) = .ok (decide ((ins.length : Int) + fs.length < room)) (stM h L room q3 ps ins q6 (.ol (fs.map rowD)) q8 q9 q10) :=
    tb_ok (v_es (k := ltK) (i := 2) (v_ee (k := addK) a1 rfl a3 rfl rfl) rfl rfl rfl rfl)
  unfold moreS
  by_cases h1 : 1 < L
  rotate_left
  · rw [decide_eq_false h1] at t1
    exact ⟨h, fs, q8, ite_nx (fand_f t1), ok, fo, fun r hr => hr, by omega, Or.inl rfl⟩
  rw [decide_eq_true h1] at t1
  by_cases h2 : (ins.length : Int) + fs.length < room
  rotate_left
  · rw [decide_eq_false h2] at t2
    exact ⟨h, fs, q8, ite_nx ((fand_t t1).trans (fand_f t2)), ok, fo, fun r hr => hr, by omega, Or.inl rfl⟩
  rw [decide_eq_true h2] at t2
  obtain ⟨r1, hh1, c1, _, _, k1⟩ := nx_c h ok 3 (by omega) [dI L, dI room, q3, .ol ps, .ol (ins.map rowD), q6, .ol (fs.map rowD), q8, q9, q10, .junk]
  have t3 := tb_ok (v_ec (k := eqK) c1 rfl (eqK_int r1 2))
  by_cases h3 : r1 = 2
  rotate_left
  · have : (r1 == 2) = false := by simpa using h3
    rw [this] at t3
    exact ⟨hh1, fs, q8, ite_nx ((fand_t t1).trans ((fand_t t2).trans t3)), k1, fo, fun r hr => hr, by omega, Or.inl rfl⟩
  have : (r1 == 2) = true := by simpa using h3
  rw [this] at t3
  rw [ite_t ((fand_t t1).trans ((fand_t t2).trans t3))]
  have s0 : cN subK [.s 1, .c (.int 1)] (stM hh1 L room q3 ps ins q6 (.ol (fs.map rowD)) q8 q9 q10) = .ok (dI (L - 1)) (stM hh1 L room q3 ps ins q6 (.ol (fs.map rowD)) q8 q9 q10) := v_sc (i := 1) rfl rfl rfl
  have sp := side_pos (l := L - 1) (by omega)
  obtain ⟨n, hh2, c2, n0, n1, k2⟩ := nx_e hh1 hh1 k1 (sideI (L - 1)) (by omega) [dI L, dI room, q3, .ol ps, .ol (ins.map rowD), q6, .ol (fs.map rowD), q8, q9, q10, .junk] [dI L, dI room, q3, .ol ps, .ol (ins.map rowD), q6, .ol (fs.map rowD), q8, q9, q10, .junk] _ (side_e (by omega) s0)
  have s1 : cSet 8 (cTup [.e (cN subK [.s 1, .c (.int 1)]), .e (cCall g__law_next [.s 0, .e (cCall g__law_side [.e (cN subK [.s 1, .c (.int 1)])])]), .c (.int 0)]) (stM hh1 L room q3 ps ins q6 (.ol (fs.map rowD)) q8 q9 q10) = .ok .nx (stM hh2 L room q3 ps ins q6 (.ol (fs.map rowD)) (.d (rowD [L - 1, n, 0])) q9 q10) :=
    cSet_ok ((tup_ok (rs := [dI (L - 1), dI n, dI 0]) (ops_e s0 (ops_e c2 (ops_c (show cOps [] _ = .ok [] _ from rfl)))) rfl (by simp)).trans rfl)
  have s1' : cSet 8 (cTup [.e (cN subK [.s 1, .c (.int 1)]), .e (cCall g__law_next [.s 0, .e (cCall g__law_side [.e (cN subK [.s 1, .c (.int 1)])])]), .c (.int 0)]) (rH hh1 :: [dI L, dI room, q3, .ol ps, .ol (ins.map rowD), q6, .ol (fs.map rowD), q8, q9, q10, .junk]) = .ok .nx (stM hh2 L room q3 ps ins q6 (.ol (fs.map rowD)) (.d (rowD [L - 1, n, 0])) q9 q10) := s1
  rw [seq_nx s1']
  generalize hm : [L - 1, n, 0] = mr
  have add1 : cN addK [.s 5, .s 7] (stM hh2 L room q3 ps ins q6 (.ol (fs.map rowD)) (.d (rowD mr)) q9 q10) = .ok (.ol ((ins ++ fs).map rowD)) (stM hh2 L room q3 ps ins q6 (.ol (fs.map rowD)) (.d (rowD mr)) q9 q10) :=
    v_ss (k := addK) (i := 5) (j := 7) rfl rfl rfl rfl (by
      show (if (ins.map rowD).length + (fs.map rowD).length ≤ 100000 then _ else _) = _
      rw [if_pos (by rw [List.length_map, List.length_map]; omega), List.map_append])
  have ni : cN notInK [.s 8, .e (cN addK [.s 5, .s 7])] (stM hh2 L room q3 ps ins q6 (.ol (fs.map rowD)) (.d (rowD mr)) q9 q10) = .ok (dB (!decide (mr ∈ ins ++ fs))) (stM hh2 L room q3 ps ins q6 (.ol (fs.map rowD)) (.d (rowD mr)) q9 q10) :=
    v_se (k := notInK) (i := 8) rfl rfl add1 rfl rfl (notInK_row mr (ins ++ fs))
  have rp := rep_b (f := cLst [.e (cVar 8)]) (ρ := stM hh2 L room q3 ps ins q6 (.ol (fs.map rowD)) (.d (rowD mr)) q9 q10) (x := rowD mr) rfl ni
  have fin : cSet 7 (cN addK [.s 7, .e (cRep (cLst [.e (cVar 8)]) (cN intK [.e (cN notInK [.s 8, .e (cN addK [.s 5, .s 7])])]))]) (stM hh2 L room q3 ps ins q6 (.ol (fs.map rowD)) (.d (rowD mr)) q9 q10) = .ok .nx (stM hh2 L room q3 ps ins q6 (.ol ((fs ++ (if (!decide (mr ∈ ins ++ fs)) = true then [mr] else [])).map rowD)) (.d (rowD mr)) q9 q10) := by
    refine cSet_ok (v_se (k := addK) (i := 7) rfl rfl rp rfl rfl ?_)
    show (if (fs.map rowD).length + _ ≤ 100000 then _ else _) = _
    rw [if_pos (by rw [List.length_map]; split <;> simp <;> omega), List.map_append]
    split <;> rfl
  refine ⟨hh2, _, _, fin, k2, ?_, ?_, ?_, ?_⟩
  · by_cases z : mr ∈ ins ++ fs
    · rw [decide_eq_true z]
      simpa using fo
    · rw [decide_eq_false z, if_pos (show (!false) = true from rfl)]
      have z1 : mr ∉ ins := fun q => z (List.mem_append_left _ q)
      have z2 : mr ∉ fs := fun q => z (List.mem_append_right _ q)
      refine ⟨?_, ?_, ?_⟩
      · rw [List.nodup_append]
        refine ⟨fo.nd, by simp, ?_⟩
        intro a ha b hb e
        rw [List.mem_singleton.mp hb] at e
        exact z2 (e ▸ ha)
      · intro r hr
        rcases List.mem_append.mp hr with q | q
        · exact fo.out r q
        · rw [List.mem_singleton.mp q]; exact z1
      · intro r hr
        rcases List.mem_append.mp hr with q | q
        · exact fo.sq r q
        · rw [List.mem_singleton.mp q, ← hm]
          refine ⟨?_, ?_, rfl⟩
          · unfold isSq
            simp only [decide_eq_true_eq]
            omega
          · intro e
            have : L - 1 = 0 := by injection e
            omega
  · intro r hr; exact List.mem_append_left _ hr
  · rw [List.length_append]; split <;> simp
  · right
    rw [List.length_append]
    split <;> simp <;> omega
end TL
set_option linter.all false
set_option maxRecDepth 100000
set_option maxHeartbeats 4000000
namespace TL
open PySem PySem.Spec PyProof.Rows L2 TP
variable [TabsOf]
structure InOk (L room : Int) (ins : List (List Int)) : Prop where
  nd : ins.Nodup
  r3 : R3 ins
  le : (ins.length : Int) ≤ room
noncomputable def bodyM : SF := (cSeq (cSet 7 (cComp (sList (cVar 6)) [11] (gN 11) (cTb (cN notInK [.s 11, .s 5])) (cVar 11)))
  (cSeq moreS
  (cSeq (cSet 9 (cComp (sList (cVar 5)) [11] (gN 11) (cTb (cN notInK [.s 11, .s 6])) (cVar 11)))
  (cSeq (cSet 10 (cLst []))
  (cSeq (cWhile tW bW 64)
  (cSeq (cSet 5 (cN addK [.e (cComp (sList (cVar 5)) [11] (gN 11) (cTb (cN notInK [.s 11, .s 10])) (cVar 11)), .s 7]))
  (cDrop (cMut 4 [] isList appendM [.e (cTup [.e (cN TP.sortedK [.s 7]), .e (cN TP.sortedK [.s 10])])]))))))))
theorem meet_len {a b : List (List Int)} (na : a.Nodup) (nb : b.Nodup) : (a.filter fun r => decide (r ∈ b)).length + (b.filter fun r => !decide (r ∈ a)).length = b.length := by
  have p : (a.filter fun r => decide (r ∈ b)).Perm (b.filter fun r => decide (r ∈ a)) := (List.perm_ext_iff_of_nodup (na.filter _) (nb.filter _)).mpr fun x => by
    simp only [List.mem_filter, decide_eq_true_eq]
    exact And.comm
  have e := split_len (fun r => decide (r ∈ a)) b
  have := p.length_eq
  omega
theorem stage_run (h : Hs) (ok : Hok h) (L room : Int) (hL : 1 ≤ L ∧ L ≤ 6) (hr : 1 ≤ room ∧ room ≤ 40) (v : VV) (hv : VOk L v) (hn : ((needsI v).length : Int) ≤ room) (q3 : R) (ps : List Stage) (hps : ps.length ≤ 1000) (ins cins : List (List Int)) (hi : InOk L room ins) (hc : cins.Perm ins) (q7 q8 q9 q10 : R) :
    ∃ h' p ins' c' q7' q8' q9' q10', bodyM (stM h L room q3 (planD ps) ins (.d (rowsD (needsI v))) q7 q8 q9 q10) = .ok .nx (stM h' L room q3 (planD (ps ++ [p])) ins' (.d (rowsD (needsI v))) q7' q8' q9' q10') ∧ Hok h' ∧ chk L room v cins p = some c' ∧ c'.Perm ins' ∧ InOk L room ins' ∧ StOk 40 p := by
  have nl : (needsI v).length ≤ 40 := by omega
  have il : ins.length ≤ 40 := by have := hi.le; omega
  have s1 := fetch_ok h L room q3 (planD ps) ins (needsI v) q7 q8 q9 q10 (by omega)
  generalize hf0 : ((needsI v).filter fun r => !decide (r ∈ ins)) = f0 at s1
  have lf0 : f0.length ≤ (needsI v).length := by rw [← hf0]; exact List.length_filter_le _ _
  have fo0 : FetOk L ins f0 := by
    rw [← hf0]
    refine ⟨(needs_nodup hv).filter _, ?_, ?_⟩
    · intro r hr
      have := (List.mem_filter.mp hr).2
      simpa using this
    · intro r hr
      exact needs_sq hv (List.mem_filter.mp hr).1
  obtain ⟨h1, fs, q8', s2, k1, fo, fsub, flen, fcase⟩ := more_ok h ok L room hL q3 (planD ps) ins f0 (.d (rowsD (needsI v))) q8 q9 q10 (by omega) (by omega) fo0
  have s3 : cSet 9 (cComp (sList (cVar 5)) [11] (gN 11) (cTb (cN notInK [.s 11, .s 6])) (cVar 11)) (stM h1 L room q3 (planD ps) ins (.d (rowsD (needsI v))) (.ol (fs.map rowD)) q8' q9 q10) = .ok .nx ([rH h1, dI L, dI room, q3, .ol (planD ps), .d (rowsD ins), .d (rowsD (needsI v)), .ol (fs.map rowD), q8', .ol ((ins.filter fun r => !decide (r ∈ needsI v)).map rowD), q10, .junk]) := by
    have e5 : cVar 5 (stM h1 L room q3 (planD ps) ins (.d (rowsD (needsI v))) (.ol (fs.map rowD)) q8' q9 q10) = .ok (.d (rowsD ins)) [rH h1, dI L, dI room, q3, .ol (planD ps), .d (rowsD ins), .d (rowsD (needsI v)), .ol (fs.map rowD), q8', q9, q10, .junk] := rfl
    have c := rowsf (src := sList (cVar 5)) (t := cTb (cN notInK [.s 11, .s 6])) (i := 11) (ρ := [rH h1, dI L, dI room, q3, .ol (planD ps), .d (rowsD ins), .d (rowsD (needsI v)), .ol (fs.map rowD), q8', q9, q10, .junk]) (rs := ins) (fun r => !decide (r ∈ needsI v)) rfl rfl rfl rfl (by simp) (by omega) (by
      intro r hr
      exact tb_ok (v_ss (k := notInK) (i := 11) (j := 6) (x := rowD r) rfl rfl rfl rfl (notInK_row r (needsI v))))
    exact cSet_ok (i := 9) c
  generalize hl0 : (ins.filter fun r => !decide (r ∈ needsI v)) = left0 at s3
  have ll0 : left0.length ≤ ins.length := by rw [← hl0]; exact List.length_filter_le _ _
  have s4 : cSet 10 (cLst []) ([rH h1, dI L, dI room, q3, .ol (planD ps), .d (rowsD ins), .d (rowsD (needsI v)), .ol (fs.map rowD), q8', .ol (left0.map rowD), q10, .junk]) = .ok .nx (stW h1 L room q3 (.ol (planD ps)) ins (.d (rowsD (needsI v))) fs q8' left0 [] .junk) := rfl
  have hk : (ins.length : Int) - left0.length + fs.length ≤ room := by
    rcases fcase with z | z
    · rw [z]
      have e1 := split_len (fun r => decide (r ∈ needsI v)) ins
      have e2 := meet_len hi.nd (needs_nodup hv)
      rw [hl0] at e1
      rw [hf0] at e2
      omega
    · omega
  obtain ⟨h2, lf, th, s5, k2, pp, hle⟩ := while_ok L room q3 (.ol (planD ps)) (.d (rowsD (needsI v))) q8' .junk ins fs left0 hk (by omega) 64 h1 left0 [] k1 (by simp) (by omega)
  have nl0 : left0.Nodup := by rw [← hl0]; exact hi.nd.filter _
  have nth : th.Nodup := (List.nodup_append.mp (pp.nodup_iff.mpr nl0)).2.1
  have hth : ∀ r ∈ th, r ∈ ins ∧ r ∉ needsI v := by
    intro r hr
    have : r ∈ left0 := pp.mem_iff.mp (List.mem_append_right _ hr)
    rw [← hl0] at this
    obtain ⟨a, b⟩ := List.mem_filter.mp this
    exact ⟨a, by simpa using b⟩
  have lth : th.length ≤ left0.length := by have := pp.length_eq; rw [List.length_append] at this; omega
  have hfs : ∀ r ∈ needsI v, r ∈ ins ∨ r ∈ fs := by
    intro r hr
    by_cases z : r ∈ ins
    · exact Or.inl z
    · refine Or.inr (fsub r ?_)
      rw [← hf0]
      exact List.mem_filter.mpr ⟨hr, by simpa using z⟩
  obtain ⟨c', e1, p1, nd1, le1⟩ := stage_ok hv hi.nd hc fo nth (fun r hr => (hth r hr).1) (fun r hr => (hth r hr).2) hfs hle
  have s6 : cSet 5 (cN addK [.e (cComp (sList (cVar 5)) [11] (gN 11) (cTb (cN notInK [.s 11, .s 10])) (cVar 11)), .s 7]) (stW h2 L room q3 (.ol (planD ps)) ins (.d (rowsD (needsI v))) fs q8' lf th .junk) = .ok .nx (stM h2 L room q3 (planD ps) ((ins.filter fun r => !decide (r ∈ th)) ++ fs) (.d (rowsD (needsI v))) (.ol (fs.map rowD)) q8' (.ol (lf.map rowD)) (.ol (th.map rowD))) := by
    have c := rowsf (src := sList (cVar 5)) (t := cTb (cN notInK [.s 11, .s 10])) (i := 11) (ρ := stW h2 L room q3 (.ol (planD ps)) ins (.d (rowsD (needsI v))) fs q8' lf th .junk) (rs := ins) (fun r => !decide (r ∈ th)) rfl rfl rfl rfl (by simp) (by omega) (by
      intro r hr
      exact tb_ok (v_ss (k := notInK) (i := 11) (j := 10) (x := rowD r) rfl rfl rfl rfl (notInK_row r th)))
    have fl := List.length_filter_le (fun r => !decide (r ∈ th)) ins
    refine cSet_ok (v_es (k := addK) (i := 7) c rfl rfl rfl ?_)
    show (if ((ins.filter fun r => !decide (r ∈ th)).map rowD).length + (fs.map rowD).length ≤ 100000 then _ else _) = _
    rw [if_pos (by rw [List.length_map, List.length_map]; omega), List.map_append]
  have f3 : R3 fs := fun r hr => (fo.sq r hr).2.2
  have t3 : R3 th := fun r hr => hi.r3 r (hth r hr).1
  have s7 : cDrop (cMut 4 [] isList appendM [.e (cTup [.e (cN TP.sortedK [.s 7]), .e (cN TP.sortedK [.s 10])])]) (stM h2 L room q3 (planD ps) ((ins.filter fun r => !decide (r ∈ th)) ++ fs) (.d (rowsD (needsI v))) (.ol (fs.map rowD)) q8' (.ol (lf.map rowD)) (.ol (th.map rowD))) = .ok .nx (stM h2 L room q3 (planD (ps ++ [(srt fs, srt th)])) ((ins.filter fun r => !decide (r ∈ th)) ++ fs) (.d (rowsD (needsI v))) (.ol (fs.map rowD)) q8' (.ol (lf.map rowD)) (.ol (th.map rowD))) := by
    have q1 : cN TP.sortedK [.s 7] (stM h2 L room q3 (planD ps) ((ins.filter fun r => !decide (r ∈ th)) ++ fs) (.d (rowsD (needsI v))) (.ol (fs.map rowD)) q8' (.ol (lf.map rowD)) (.ol (th.map rowD))) = .ok (.ol ((srt fs).map rowD)) _ := v_s (i := 7) rfl rfl (sorted_rows f3 (by omega))
    have q2 : cN TP.sortedK [.s 10] (stM h2 L room q3 (planD ps) ((ins.filter fun r => !decide (r ∈ th)) ++ fs) (.d (rowsD (needsI v))) (.ol (fs.map rowD)) q8' (.ol (lf.map rowD)) (.ol (th.map rowD))) = .ok (.ol ((srt th).map rowD)) _ := v_s (i := 10) rfl rfl (sorted_rows t3 (by omega))
    have tp := tup_ok (rs := [.ol ((srt fs).map rowD), .ol ((srt th).map rowD)]) (ops_e q1 (ops_e q2 (show cOps [] _ = .ok [] _ from rfl))) rfl (by simp)
    have ap := app_ok (i := 4) (xs := planD ps) (x := stepD (srt fs, srt th)) rfl tp rfl rfl (by unfold planD; rw [List.length_map]; omega)
    rw [drop_ok ap]
    unfold planD
    rw [List.map_append]
    rfl
  refine ⟨h2, (srt fs, srt th), _, c', .ol (fs.map rowD), q8', .ol (lf.map rowD), .ol (th.map rowD), ?_, k2, e1, p1, ⟨nd1, ?_, le1⟩, ⟨?_, ?_, ?_, ?_⟩⟩
  · unfold bodyM
    rw [seq_nx s1, seq_nx s2, seq_nx s3, seq_nx s4, seq_nx s5, seq_nx s6, s7]
  · intro r hr
    rcases List.mem_append.mp hr with z | z
    · exact hi.r3 r (List.mem_filter.mp z).1
    · exact f3 r z
  · intro r hr; exact f3 r (srt_mem.mp hr)
  · intro r hr; exact t3 r (srt_mem.mp hr)
  · have := (srt_perm fs).length_eq
    have := needs_len v
    have := hv.wh
    show (srt fs).length ≤ 40
    omega
  · have := (srt_perm th).length_eq
    show (srt th).length ≤ 40
    omega
end TL
set_option linter.all false
set_option maxRecDepth 100000
set_option maxHeartbeats 4000000
namespace TL
open PySem PySem.Spec PyProof.Rows L2 TP
variable [TabsOf]
theorem loopM_ok (L room : Int) (hL : 1 ≤ L ∧ L ≤ 6) (hr : 1 ≤ room ∧ room ≤ 40) (q3 : R) : ∀ (vs : List VV) (h : Hs) (ps : List Stage) (ins cins : List (List Int)) (q6 q7 q8 q9 q10 : R), (∀ v ∈ vs, VOk L v) → (∀ v ∈ vs, ((needsI v).length : Int) ≤ room) → Hok h → ps.length + vs.length ≤ 1000 → InOk L room ins → cins.Perm ins →
    ∃ h' qs ins' a b c d e, forL (gN 6) bodyM (needsD vs) (stM h L room q3 (planD ps) ins q6 q7 q8 q9 q10) = .ok .nx (stM h' L room q3 (planD (ps ++ qs)) ins' a b c d e) ∧ Hok h' ∧ qs.length = vs.length ∧ chks L room vs qs cins = true ∧ ∀ p ∈ qs, StOk 40 p
  | [], h, ps, ins, cins, q6, q7, q8, q9, q10, _, _, ok, _, _, _ => ⟨h, [], ins, q6, q7, q8, q9, q10, by rw [List.append_nil]; rfl, ok, rfl, rfl, fun _ z => by cases z⟩
  | v :: vs, h, ps, ins, cins, q6, q7, q8, q9, q10, hv, hn, ok, hl, hi, hc => by
    rw [List.length_cons] at hl
    obtain ⟨h1, p, ins1, c1, a, b, c, d, e1, k1, e2, p1, i1, sk⟩ := stage_run h ok L room hL hr v (hv v List.mem_cons_self) (hn v List.mem_cons_self) q3 ps (by omega) ins cins hi hc q7 q8 q9 q10
    obtain ⟨h2, qs, ins2, a2, b2, c2, d2, f2, e3, k2, l2, ch2, sk2⟩ := loopM_ok L room hL hr q3 vs h1 (ps ++ [p]) ins1 c1 (.d (rowsD (needsI v))) a b c d (fun v h => hv v (List.mem_cons_of_mem _ h)) (fun v h => hn v (List.mem_cons_of_mem _ h)) k1 (by rw [List.length_append]; simp; omega) i1 p1
    refine ⟨h2, p :: qs, ins2, a2, b2, c2, d2, f2, ?_, k2, by simp [l2], ?_, ?_⟩
    · show ((bodyM (stM h L room q3 (planD ps) ins (.d (rowsD (needsI v))) q7 q8 q9 q10)).bind fun fl ρ2 => match fl with
        | .nx => forL (gN 6) bodyM (needsD vs) ρ2
        | .ct => forL (gN 6) bodyM (needsD vs) ρ2
        | .bk => .ok .nx ρ2
        | .rt r => .ok (.rt r) ρ2) = _
      rw [e1]
      rw [List.append_assoc] at e3
      exact e3
    · show (match chk L room v cins p with
        | some ins' => chks L room vs qs ins'
        | none => false) = true
      rw [e2]
      exact ch2
    · intro q hq
      rcases List.mem_cons.mp hq with rfl | z
      · exact sk
      · exact sk2 q z
theorem made_ok (h : Hs) (ok : Hok h) (L room : Int) (hL : 1 ≤ L ∧ L ≤ 6) (hr : 1 ≤ room ∧ room ≤ 40) (vs : List VV) (hv : ∀ v ∈ vs, VOk L v) (hn : ∀ v ∈ vs, ((needsI v).length : Int) ≤ room) (hl : vs.length ≤ 12) :
    ∃ h' ps, g__law_made [rH h, dI L, dI room, .d (.list (viewsD vs))] = .ok (.ol (planD ps)) [rH h', dI L, dI room, .d (.list (viewsD vs))] ∧ Hok h' ∧ isPl L room vs ps = true ∧ ps.length = vs.length ∧ ∀ p ∈ ps, StOk 40 p := by
  obtain ⟨h', ps, ins, a, b, c, d, e, e1, k, l, ch, sk⟩ := loopM_ok L room hL hr (.d (.list (viewsD vs))) vs h [] [] [] .junk .junk .junk .junk .junk hv hn ok (by simp; omega) ⟨List.nodup_nil, (fun _ z => by cases z), by simp; omega⟩ (List.Perm.refl _)
  refine ⟨h', ps, ?_, k, by unfold isPl; simp [l, ch], l, sk⟩
  have src : sList (cCall g__law_needs [.s 3]) (stM h L room (.d (.list (viewsD vs))) (planD []) [] .junk .junk .junk .junk .junk) = .ok (needsD vs) (stM h L room (.d (.list (viewsD vs))) (planD []) [] .junk .junk .junk .junk .junk) :=
    list_of (call_s (i := 3) rfl (needs_ok L vs hv (by omega) _ rfl))
  have s1 : cSet 4 (cLst []) [rH h, dI L, dI room, .d (.list (viewsD vs)), .junk, .junk, .junk, .junk, .junk, .junk, .junk, .junk] = .ok .nx [rH h, dI L, dI room, .d (.list (viewsD vs)), .ol [], .junk, .junk, .junk, .junk, .junk, .junk, .junk] := rfl
  have s2 : cSet 5 (cLst []) [rH h, dI L, dI room, .d (.list (viewsD vs)), .ol [], .junk, .junk, .junk, .junk, .junk, .junk, .junk] = .ok .nx (stM h L room (.d (.list (viewsD vs))) (planD []) [] .junk .junk .junk .junk .junk) := rfl
  refine (run_rt (ρ := [rH h', dI L, dI room, .d (.list (viewsD vs)), .junk, .ol (ins.map rowD), a, b, c, d, e, .junk]) rfl ?_).trans rfl
  show p__law_made [rH h, dI L, dI room, .d (.list (viewsD vs)), .junk, .junk, .junk, .junk, .junk, .junk, .junk, .junk] = _
  unfold p__law_made
  rw [seq_nx s1, seq_nx s2]
  refine (seq_nx ((for_ok src).trans e1)).trans ?_
  simp [cRet, cMv, Rs.bind, isJ]
end TL
set_option linter.all false
set_option maxRecDepth 100000
set_option maxHeartbeats 4000000
namespace TL
open PySem PySem.Spec PyProof.Rows L2 TP
variable [TabsOf]
def cutL {α : Type} (lo hi : Option Int) (xs : List α) : List α := (xs.drop (HT.sIx xs.length 0 lo)).take (HT.sIx xs.length xs.length hi - HT.sIx xs.length 0 lo)
theorem cutD_map {α : Type} (f : α → PyData) (lo hi : Option Int) (xs : List α) : cutD lo hi (.list (xs.map f)) = some (.ol ((cutL lo hi xs).map f)) := by
  unfold cutL
  show some (R.ol _) = _
  rw [List.length_map, ← List.map_drop, ← List.map_take]
theorem cutL_mem {α : Type} {lo hi : Option Int} {xs : List α} {x : α} (h : x ∈ cutL lo hi xs) : x ∈ xs := by
  unfold cutL at h
  exact List.mem_of_mem_drop (List.mem_of_mem_take h)
theorem cutL_len {α : Type} (lo hi : Option Int) (xs : List α) : (cutL lo hi xs).length ≤ xs.length := by
  unfold cutL
  rw [List.length_take, List.length_drop]
  omega
theorem sIx_pos (n d : Nat) (k : Nat) : HT.sIx n d (some (k : Int)) = min k n := by
  unfold HT.sIx
  simp
  try omega
theorem cutL_to {α : Type} (k : Nat) (xs : List α) : (cutL none (some (k : Int)) xs).length = min k xs.length := by
  unfold cutL
  rw [List.length_take, List.length_drop, sIx_pos]
  show min (min k xs.length - 0) (xs.length - 0) = _
  omega
theorem cutL_from {α : Type} (k : Nat) (xs : List α) : (cutL (some (k : Int)) none xs).length = xs.length - k := by
  unfold cutL
  rw [List.length_take, List.length_drop, sIx_pos]
  show min (xs.length - min k xs.length) (xs.length - min k xs.length) = _
  omega
theorem cutL_one {α : Type} (k : Nat) (xs : List α) : (cutL (some (k : Int)) (some ((k : Int) + 1)) xs).length ≤ 1 := by
  unfold cutL
  rw [List.length_take, List.length_drop, sIx_pos, show ((k : Int) + 1) = ((k + 1 : Nat) : Int) from rfl, sIx_pos]
  omega
theorem sl_ok {α : Type} {f : α → PyData} {xs : List α} {ρ : List R} {i : Nat} {r : R} (lo hi : Option EF) (l u : Option Int) (h : ρ[i]? = some r) (hv : vw r = some (.list (xs.map f))) (h1 : cPart lo ρ = .ok l ρ) (h2 : cPart hi ρ = .ok u ρ) : cSlice i lo hi ρ = .ok (.ol ((cutL l u xs).map f)) ρ := by
  unfold cSlice
  simp only [h, jV hv, Bool.false_eq_true, if_false, h1, h2, Rs.bind, Option.bind_some, hv, cutD_map]
theorem part_some {f : EF} {ρ : List R} {i : Int} (h : f ρ = .ok (dI i) ρ) : cPart (some f) ρ = .ok (some i) ρ := by
  simp [cPart, h, Rs.bind, asIO]
theorem part_none {ρ : List R} : cPart none ρ = .ok none ρ := rfl
end TL
set_option linter.all false
set_option maxRecDepth 100000
set_option maxHeartbeats 4000000
namespace TL
open PySem PySem.Spec PyProof.Rows L2 TP
variable [TabsOf]
structure PlOk (n m : Nat) (ps : List Stage) : Prop where
  st : ∀ p ∈ ps, StOk n p
  len : ps.length ≤ m
theorem StOk.mono {n m : Nat} {p : Stage} (h : StOk n p) (hn : n ≤ m) : StOk m p := ⟨h.a, h.b, by have := h.c; omega, by have := h.d; omega⟩
theorem st_nil (n : Nat) : StOk n ([], []) := ⟨(fun _ z => by cases z), (fun _ z => by cases z), by simp, by simp⟩
theorem addK_map {α : Type} (f : α → PyData) (xs ys : List α) (h : xs.length + ys.length ≤ 100000) : addK [.list (xs.map f), .list (ys.map f)] = some (.ol ((xs ++ ys).map f)) := by
  show (if (xs.map f).length + (ys.map f).length ≤ 100000 then _ else _) = _
  rw [if_pos (by rw [List.length_map, List.length_map]; exact h), List.map_append]
theorem cVar_vw {ρ : List R} {i : Nat} {r : R} {xs : List PyData} (h : ρ[i]? = some r) (hv : vw r = some (.list xs)) : cVar i ρ = .ok (.d (.list xs)) (ρ.set i (.d (.list xs))) := by
  simp [cVar, h, vw_toD hv]
theorem fz_ok {f : EF} {ρ ρ1 : List R} {r : R} {x : PyData} (h : f ρ = .ok r ρ1) (hx : toD r = some x) : cFz f ρ = .ok (.d x) ρ1 := by
  unfold cFz
  rw [h]
  simp only [Rs.bind, hx]
/-- the four plans of the first turn -/
noncomputable def ends4 : EF := cN ixK [.e (cFz (cLst [.e (cN addK [.s 1, .e (cFz (cLst [.e (cTup [.e (cLst []), .e (cLst [])])]))]), .e (cSlice 1 none (some (cN negK [.c (.int 1)]))), .e (cSlice 1 (some (cC (.int 1))) none), .e (cRev (cVar 1))])), .e (cCall g__law_next [.s 0, .c (.int 4)])]
theorem ends4_ok (h : Hs) (ok : Hok h) (ps : List Stage) (n m : Nat) (hp : PlOk n m ps) (hm : m ≤ 1000) (r1 : R) (h1 : vw r1 = some (.list (planD ps))) (ρ : List R) :
    ∃ h' qs, ends4 (rH h :: r1 :: ρ) = .ok (.d (.list (planD qs))) (rH h' :: .d (.list (planD ps)) :: ρ) ∧ Hok h' ∧ PlOk n (m + 1) qs := by
  have hl := hp.len
  obtain ⟨j, h', c1, j0, j1, k1⟩ := nx_c h ok 4 (by omega) (.d (.list (planD ps)) :: ρ)
  have e1 : cN addK [.s 1, .e (cFz (cLst [.e (cTup [.e (cLst []), .e (cLst [])])]))] (rH h :: r1 :: ρ) = .ok (.ol (planD (ps ++ [([], [])]))) (rH h :: r1 :: ρ) := by
    have t : cFz (cLst [.e (cTup [.e (cLst []), .e (cLst [])])]) (rH h :: r1 :: ρ) = .ok (.d (.list (planD [([], [])]))) (rH h :: r1 :: ρ) := rfl
    exact v_se (k := addK) (i := 1) rfl h1 t rfl rfl (addK_map stepD ps [([], [])] (by simp; omega))
  have e2 := sl_ok (f := stepD) (xs := ps) (ρ := rH h :: r1 :: ρ) (i := 1) none (some (cN negK [.c (.int 1)])) none (some (-1)) rfl h1 rfl rfl
  have e3 := sl_ok (f := stepD) (xs := ps) (ρ := rH h :: r1 :: ρ) (i := 1) (some (cC (.int 1))) none (some 1) none rfl h1 rfl rfl
  have e4 : cRev (cVar 1) (rH h :: r1 :: ρ) = .ok (.ol (planD ps.reverse)) (rH h :: .d (.list (planD ps)) :: ρ) := by
    have v := cVar_vw (ρ := rH h :: r1 :: ρ) (i := 1) rfl h1
    unfold cRev
    rw [v]
    show Rs.ok (R.ol (planD ps).reverse) _ = _
    unfold planD
    rw [List.map_reverse]
    rfl
  have l := lst_ok (rs := [.ol (planD (ps ++ [([], [])])), .ol (planD (cutL none (some (-1)) ps)), .ol (planD (cutL (some 1) none ps)), .ol (planD ps.reverse)]) (ops_e e1 (ops_e e2 (ops_e e3 (ops_e e4 (show cOps [] _ = .ok [] _ from rfl))))) rfl (by simp)
  have fz : cFz (cLst [.e (cN addK [.s 1, .e (cFz (cLst [.e (cTup [.e (cLst []), .e (cLst [])])]))]), .e (cSlice 1 none (some (cN negK [.c (.int 1)]))), .e (cSlice 1 (some (cC (.int 1))) none), .e (cRev (cVar 1))]) (rH h :: r1 :: ρ) = .ok (.d (.list [.list (planD (ps ++ [([], [])])), .list (planD (cutL none (some (-1)) ps)), .list (planD (cutL (some 1) none ps)), .list (planD ps.reverse)])) (rH h :: .d (.list (planD ps)) :: ρ) := fz_ok l rfl
  have four : j = 0 ∨ j = 1 ∨ j = 2 ∨ j = 3 := by omega
  unfold ends4
  rcases four with rfl | rfl | rfl | rfl
  · refine ⟨h', _, v_ee (k := ixK) fz rfl c1 rfl rfl, k1, ?_, by rw [List.length_append]; simp; omega⟩
    intro p hq
    rcases List.mem_append.mp hq with z | z
    · exact hp.st p z
    · rw [List.mem_singleton.mp z]; exact st_nil n
  · exact ⟨h', _, v_ee (k := ixK) fz rfl c1 rfl rfl, k1, fun p hq => hp.st p (cutL_mem hq), by have := cutL_len none (some (-1)) ps; omega⟩
  · exact ⟨h', _, v_ee (k := ixK) fz rfl c1 rfl rfl, k1, fun p hq => hp.st p (cutL_mem hq), by have := cutL_len (some 1) none ps; omega⟩
  · exact ⟨h', _, v_ee (k := ixK) fz rfl c1 rfl rfl, k1, fun p hq => hp.st p (List.mem_reverse.mp hq), by rw [List.length_reverse]; omega⟩
end TL
set_option linter.all false
set_option maxRecDepth 100000
set_option maxHeartbeats 4000000
namespace TL
open PySem PySem.Spec PyProof.Rows L2 TP
variable [TabsOf]
abbrev stT (h : Hs) (r1 : R) (L k t : Int) (q5 q6 q7 q8 q9 q10 q11 : R) : List R := [rH h, r1, dI L, dI k, dI t, q5, q6, q7, q8, q9, q10, q11]
abbrev isRows (r : R) (rs : List (List Int)) : Prop := vw r = some (rowsD rs)
noncomputable def m1 : SF := cSet 5 (cN TP.sortedK [.e (cN addK [.s 5, .e (cLst [.e (cVar 8)])])])
theorem srt_len (rs : List (List Int)) : (srt rs).length = rs.length := (srt_perm rs).length_eq
theorem m1_ok (ρ : List R) (q5 : R) (fs : List (List Int)) (one : List Int) (h5 : ρ[5]? = some q5) (hv : isRows q5 fs) (h8 : ρ[8]? = some (.d (rowD one))) (h3 : R3 fs) (h1 : one.length = 3) (hl : fs.length ≤ 1000) : m1 ρ = .ok .nx (ρ.set 5 (.ol ((srt (fs ++ [one])).map rowD))) := by
  have l : cLst [.e (cVar 8)] ρ = .ok (.ol ([one].map rowD)) ρ := lst_ok (rs := [.d (rowD one)]) (ops_e (var_d h8) (show cOps [] ρ = .ok [] ρ from rfl)) rfl (by simp)
  have a := v_se (k := addK) h5 hv l rfl h5 (addK_map rowD fs [one] (by simp; omega))
  refine cSet_ok (v_e a rfl (sorted_rows ?_ (by simp; omega)))
  intro r hr
  rcases List.mem_append.mp hr with z | z
  · exact h3 r z
  · rw [List.mem_singleton.mp z]; exact h1
noncomputable def m2 : SF := cSet 5 (cN addK [.e (cSlice 5 none (some (cVar 9))), .e (cSlice 5 (some (cN addK [.s 9, .c (.int 1)])) none)])
theorem m2_ok (ρ : List R) (q5 : R) (fs : List (List Int)) (at' : Nat) (h5 : ρ[5]? = some q5) (hv : isRows q5 fs) (h9 : ρ[9]? = some (dI at')) (hl : fs.length ≤ 1000) : m2 ρ = .ok .nx (ρ.set 5 (.ol ((cutL none (some (at' : Int)) fs ++ cutL (some ((at' : Int) + 1)) none fs).map rowD))) := by
  have a := sl_ok (f := rowD) (xs := fs) none (some (cVar 9)) none (some (at' : Int)) h5 hv rfl (part_some (var_d h9))
  have b := sl_ok (f := rowD) (xs := fs) (some (cN addK [.s 9, .c (.int 1)])) none (some ((at' : Int) + 1)) none h5 hv (part_some (v_sc h9 rfl rfl)) rfl
  have l1 := cutL_len none (some (at' : Int)) fs
  have l2 := cutL_len (some ((at' : Int) + 1)) none fs
  exact cSet_ok (v_ee a rfl b rfl (addK_map rowD _ _ (by omega)))
noncomputable def m3a : SF := cSet 10 (cN addK [.e (cN addK [.e (cSlice 5 none (some (cVar 9))), .e (cSlice 5 (some (cVar 9)) (some (cN addK [.s 9, .c (.int 1)])))]), .e (cSlice 5 (some (cVar 9)) none)])
def twice (at' : Nat) (fs : List (List Int)) : List (List Int) := cutL none (some (at' : Int)) fs ++ cutL (some (at' : Int)) (some ((at' : Int) + 1)) fs ++ cutL (some (at' : Int)) none fs
theorem m3a_ok (ρ : List R) (q5 : R) (fs : List (List Int)) (at' : Nat) (h5 : ρ[5]? = some q5) (hv : isRows q5 fs) (h9 : ρ[9]? = some (dI at')) (hl : fs.length ≤ 1000) : m3a ρ = .ok .nx (ρ.set 10 (.ol ((twice at' fs).map rowD))) := by
  have a := sl_ok (f := rowD) (xs := fs) none (some (cVar 9)) none (some (at' : Int)) h5 hv rfl (part_some (var_d h9))
  have b := sl_ok (f := rowD) (xs := fs) (some (cVar 9)) (some (cN addK [.s 9, .c (.int 1)])) (some (at' : Int)) (some ((at' : Int) + 1)) h5 hv (part_some (var_d h9)) (part_some (v_sc h9 rfl rfl))
  have c := sl_ok (f := rowD) (xs := fs) (some (cVar 9)) none (some (at' : Int)) none h5 hv (part_some (var_d h9)) rfl
  have l1 := cutL_len none (some (at' : Int)) fs
  have l2 := cutL_len (some (at' : Int)) (some ((at' : Int) + 1)) fs
  have l3 := cutL_len (some (at' : Int)) none fs
  exact cSet_ok (v_ee (v_ee a rfl b rfl (addK_map rowD _ _ (by omega))) rfl c rfl (addK_map rowD _ _ (by rw [List.length_append]; omega)))
theorem twice_len (at' : Nat) (fs : List (List Int)) : (twice at' fs).length ≤ fs.length + 1 := by
  unfold twice
  rw [List.length_append, List.length_append, cutL_to, cutL_from]
  have := cutL_one at' fs
  omega
theorem twice_mem {at' : Nat} {fs : List (List Int)} {r : List Int} (h : r ∈ twice at' fs) : r ∈ fs := by
  unfold twice at h
  rcases List.mem_append.mp h with h | h
  · rcases List.mem_append.mp h with h | h
    · exact cutL_mem h
    · exact cutL_mem h
  · exact cutL_mem h
noncomputable def m3b : SF := cSet 5 (cN ixK [.e (cFz (cLst [.e (cRev (cVar 5)), .e (cVar 10)])), .e (cCall g__law_next [.s 0, .c (.int 2)])])
theorem m3b_ok (h : Hs) (ok : Hok h) (q1 q2 q3 q4 q5 q6 q7 q8 q9 q11 : R) (fs tw : List (List Int)) (hv : isRows q5 fs) : ∃ h' gs, m3b [rH h, q1, q2, q3, q4, q5, q6, q7, q8, q9, .ol (tw.map rowD), q11] = .ok .nx [rH h', q1, q2, q3, q4, .d (rowsD gs), q6, q7, q8, q9, .d (rowsD tw), q11] ∧ Hok h' ∧ (gs = fs.reverse ∨ gs = tw) := by
  obtain ⟨j, h', c1, j0, j1, k1⟩ := nx_c h ok 2 (by omega) [q1, q2, q3, q4, .d (rowsD fs), q6, q7, q8, q9, .d (rowsD tw), q11]
  have e4 : cRev (cVar 5) [rH h, q1, q2, q3, q4, q5, q6, q7, q8, q9, .ol (tw.map rowD), q11] = .ok (.ol (fs.reverse.map rowD)) [rH h, q1, q2, q3, q4, .d (rowsD fs), q6, q7, q8, q9, .ol (tw.map rowD), q11] := by
    have v := cVar_vw (ρ := [rH h, q1, q2, q3, q4, q5, q6, q7, q8, q9, .ol (tw.map rowD), q11]) (i := 5) rfl hv
    unfold cRev
    rw [v]
    show Rs.ok (R.ol (fs.map rowD).reverse) _ = _
    rw [List.map_reverse]
    rfl
  have e5 : cVar 10 [rH h, q1, q2, q3, q4, .d (rowsD fs), q6, q7, q8, q9, .ol (tw.map rowD), q11] = .ok (.d (rowsD tw)) [rH h, q1, q2, q3, q4, .d (rowsD fs), q6, q7, q8, q9, .d (rowsD tw), q11] := rfl
  have l := lst_ok (rs := [.ol (fs.reverse.map rowD), .d (rowsD tw)]) (ops_e e4 (ops_e e5 (show cOps [] _ = .ok [] _ from rfl))) rfl (by simp)
  have fz := fz_ok (x := .list [rowsD fs.reverse, rowsD tw]) l rfl
  have two : j = 0 ∨ j = 1 := by omega
  unfold m3b
  rcases two with rfl | rfl
  · exact ⟨h', fs.reverse, cSet_ok (v_ee (k := ixK) fz rfl c1 rfl rfl), k1, Or.inl rfl⟩
  · exact ⟨h', tw, cSet_ok (v_ee (k := ixK) fz rfl c1 rfl rfl), k1, Or.inr rfl⟩
end TL
set_option linter.all false
set_option maxRecDepth 100000
set_option maxHeartbeats 4000000
namespace TL
open PySem PySem.Spec PyProof.Rows L2 TP
variable [TabsOf]
noncomputable def m4 : SF := cSet 6 (cN ixK [.e (cFz (cLst [.e (cSlice 6 (some (cC (.int 1))) none), .e (cSlice 6 none (some (cN negK [.c (.int 1)]))), .e (cN TP.sortedK [.e (cN addK [.s 6, .e (cLst [.e (cVar 8)])])])])), .e (cCall g__law_next [.s 0, .c (.int 3)])])
theorem m4_ok (h : Hs) (ok : Hok h) (q1 q2 q3 q4 q5 q6 q7 q9 q10 q11 : R) (ts : List (List Int)) (one : List Int) (hv : isRows q6 ts) (h3 : R3 ts) (h1 : one.length = 3) (hl : ts.length ≤ 1000) : ∃ h' gs, m4 [rH h, q1, q2, q3, q4, q5, q6, q7, .d (rowD one), q9, q10, q11] = .ok .nx [rH h', q1, q2, q3, q4, q5, .d (rowsD gs), q7, .d (rowD one), q9, q10, q11] ∧ Hok h' ∧ R3 gs ∧ gs.length ≤ ts.length + 1 := by
  obtain ⟨j, h', c1, j0, j1, k1⟩ := nx_c h ok 3 (by omega) [q1, q2, q3, q4, q5, q6, q7, .d (rowD one), q9, q10, q11]
  generalize hρ : ([rH h, q1, q2, q3, q4, q5, q6, q7, .d (rowD one), q9, q10, q11] : List R) = ρ at c1
  have g6 : ρ[6]? = some q6 := by rw [← hρ]; rfl
  have g8 : ρ[8]? = some (.d (rowD one)) := by rw [← hρ]; rfl
  have a := sl_ok (f := rowD) (xs := ts) (some (cC (.int 1))) none (some 1) none g6 hv rfl rfl
  have b := sl_ok (f := rowD) (xs := ts) none (some (cN negK [.c (.int 1)])) none (some (-1)) g6 hv rfl rfl
  have l0 : cLst [.e (cVar 8)] ρ = .ok (.ol ([one].map rowD)) ρ := lst_ok (rs := [.d (rowD one)]) (ops_e (var_d g8) (show cOps [] ρ = .ok [] ρ from rfl)) rfl (by simp)
  have r3 : R3 (ts ++ [one]) := by
    intro r hr
    rcases List.mem_append.mp hr with z | z
    · exact h3 r z
    · rw [List.mem_singleton.mp z]; exact h1
  have c := v_e (v_se (k := addK) g6 hv l0 rfl g6 (addK_map rowD ts [one] (by simp; omega))) rfl (sorted_rows r3 (by simp; omega))
  have l := lst_ok (rs := [.ol ((cutL (some 1) none ts).map rowD), .ol ((cutL none (some (-1)) ts).map rowD), .ol ((srt (ts ++ [one])).map rowD)]) (ops_e a (ops_e b (ops_e c (show cOps [] ρ = .ok [] ρ from rfl)))) rfl (by simp)
  have fz := fz_ok (x := .list [rowsD (cutL (some 1) none ts), rowsD (cutL none (some (-1)) ts), rowsD (srt (ts ++ [one]))]) l rfl
  have l1 := cutL_len (some 1) none ts
  have l2 := cutL_len none (some (-1)) ts
  have three' : j = 0 ∨ j = 1 ∨ j = 2 := by omega
  have c1' : cCall g__law_next [.s 0, .c (.int 3)] ρ = .ok (dI j) [rH h', q1, q2, q3, q4, q5, q6, q7, .d (rowD one), q9, q10, q11] := by rw [← hρ]; rw [← hρ] at c1; exact c1
  unfold m4
  rcases three' with rfl | rfl | rfl
  · exact ⟨h', _, (cSet_ok (i := 6) (v_ee (k := ixK) fz rfl c1' rfl rfl)), k1, fun r hr => h3 r (cutL_mem hr), by omega⟩
  · exact ⟨h', _, (cSet_ok (i := 6) (v_ee (k := ixK) fz rfl c1' rfl rfl)), k1, fun r hr => h3 r (cutL_mem hr), by omega⟩
  · exact ⟨h', _, (cSet_ok (i := 6) (v_ee (k := ixK) fz rfl c1' rfl rfl)), k1, fun r hr => r3 r (srt_mem.mp hr), by rw [srt_len]; simp⟩
noncomputable def m5 : SF := cSet 6 (cN TP.sortedK [.e (cN addK [.s 6, .e (cSlice 5 (some (cVar 9)) (some (cN addK [.s 9, .c (.int 1)])))])])
theorem m5_ok (ρ : List R) (q5 q6 : R) (fs ts : List (List Int)) (at' : Nat) (h5 : ρ[5]? = some q5) (hv5 : isRows q5 fs) (h6 : ρ[6]? = some q6) (hv6 : isRows q6 ts) (h9 : ρ[9]? = some (dI at')) (f3 : R3 fs) (t3 : R3 ts) (hl : fs.length ≤ 1000) (hl2 : ts.length ≤ 1000) :
    m5 ρ = .ok .nx (ρ.set 6 (.ol ((srt (ts ++ cutL (some (at' : Int)) (some ((at' : Int) + 1)) fs)).map rowD))) := by
  have b := sl_ok (f := rowD) (xs := fs) (some (cVar 9)) (some (cN addK [.s 9, .c (.int 1)])) (some (at' : Int)) (some ((at' : Int) + 1)) h5 hv5 (part_some (var_d h9)) (part_some (v_sc h9 rfl rfl))
  have l1 := cutL_one at' fs
  refine cSet_ok (v_e (v_se (k := addK) h6 hv6 b rfl h6 (addK_map rowD _ _ (by omega))) rfl (sorted_rows ?_ (by rw [List.length_append]; omega)))
  intro r hr
  rcases List.mem_append.mp hr with z | z
  · exact t3 r z
  · exact f3 r (cutL_mem z)
end TL
set_option linter.all false
set_option maxRecDepth 100000
set_option maxHeartbeats 4000000
namespace TL
open PySem PySem.Spec PyProof.Rows L2 TP
variable [TabsOf]
noncomputable def m6 : SF := (cSeq (cSet 11 (cN ixK [.s 1, .e (cCall g__law_next [.s 0, .e (cN lenK [.s 1])])]))
  (cAsg (cVar 11) (gT [gN 5, gN 6])))
theorem m6_ok (h : Hs) (ok : Hok h) (r1 : R) (ps : List Stage) (h1 : vw r1 = some (.list (planD ps))) (hne : 1 ≤ ps.length) (hl : ps.length ≤ 1000) (L k t : Int) (q5 q6 q7 q8 q9 q10 q11 : R) :
    ∃ h' p, m6 (stT h r1 L k t q5 q6 q7 q8 q9 q10 q11) = .ok .nx (stT h' r1 L k t (.d (rowsD p.1)) (.d (rowsD p.2)) q7 q8 q9 q10 (.d (stepD p))) ∧ Hok h' ∧ p ∈ ps := by
  have lenp : (planD ps).length = ps.length := by unfold planD; simp
  have a1 : cN lenK [.s 1] (stT h r1 L k t q5 q6 q7 q8 q9 q10 q11) = .ok (dI ps.length) (stT h r1 L k t q5 q6 q7 q8 q9 q10 q11) := v_s (i := 1) rfl h1 (by show some (dI ((planD ps).length : Nat)) = _; rw [lenp])
  obtain ⟨j, h', c1, j0, j1, k1⟩ := nx_e h h ok ps.length (by omega) _ _ _ a1
  obtain ⟨i, rfl⟩ := Int.eq_ofNat_of_zero_le j0
  have hi : i < ps.length := by omega
  have g : (planD ps)[i]? = some (stepD ps[i]) := by
    unfold planD
    rw [List.getElem?_map, List.getElem?_eq_getElem hi]; rfl
  have s1 : cSet 11 (cN ixK [.s 1, .e (cCall g__law_next [.s 0, .e (cN lenK [.s 1])])]) (stT h r1 L k t q5 q6 q7 q8 q9 q10 q11) = .ok .nx (stT h' r1 L k t q5 q6 q7 q8 q9 q10 (.d (stepD ps[i]))) :=
    cSet_ok (i := 11) (v_se (k := ixK) (i := 1) rfl h1 c1 rfl rfl (ix_nat g))
  refine ⟨h', ps[i], ?_, k1, List.getElem_mem hi⟩
  unfold m6
  rw [seq_nx s1]
  rfl
end TL
set_option linter.all false
set_option maxRecDepth 100000
set_option maxHeartbeats 4000000
namespace TL
open PySem PySem.Spec PyProof.Rows L2 TP
variable [TabsOf]
noncomputable def midT : SF := (cIte (cTb (cN eqK [.s 4, .c (.int 1)])) m1 (cIte (cTb (cN eqK [.s 4, .c (.int 2)])) m2 (cIte (cTb (cN eqK [.s 4, .c (.int 3)])) (cSeq m3a m3b) (cIte (cTb (cN eqK [.s 4, .c (.int 4)])) m4 (cIte (cTb (cN eqK [.s 4, .c (.int 5)])) m5 m6)))))
theorem eq4 (h : Hs) (r1 : R) (L k t j : Int) (q5 q6 q7 q8 q9 q10 q11 : R) : cTb (cN eqK [.s 4, .c (.int j)]) (stT h r1 L k t q5 q6 q7 q8 q9 q10 q11) = .ok (t == j) (stT h r1 L k t q5 q6 q7 q8 q9 q10 q11) := tb_ok (v_sc (k := eqK) (i := 4) rfl rfl (eqK_int t j))
theorem mid_ok (h : Hs) (ok : Hok h) (r1 : R) (ps : List Stage) (h1 : vw r1 = some (.list (planD ps))) (hne : 1 ≤ ps.length) (hl : ps.length ≤ 1000) (n : Nat) (hn : n ≤ 100) (hps : ∀ p ∈ ps, StOk n p) (L k t : Int) (p : Stage) (hp : p ∈ ps) (one : List Int) (hone : one.length = 3) (at' : Nat) (q7 : R) :
    ∃ h' q5 q6 q10 q11 p', midT (stT h r1 L k t (.d (rowsD p.1)) (.d (rowsD p.2)) q7 (.d (rowD one)) (dI at') .junk .junk) = .ok .nx (stT h' r1 L k t q5 q6 q7 (.d (rowD one)) (dI at') q10 q11) ∧ Hok h' ∧ toD q5 = some (rowsD p'.1) ∧ toD q6 = some (rowsD p'.2) ∧ StOk (n + 1) p' := by
  obtain ⟨fs, ts⟩ := p
  obtain ⟨f3, t3, fl, tl⟩ := hps _ hp
  simp only at f3 t3 fl tl
  have e := fun j => eq4 h r1 L k t j (.d (rowsD fs)) (.d (rowsD ts)) q7 (.d (rowD one)) (dI at') .junk .junk
  unfold midT
  by_cases z1 : t = 1
  · have e1 := e 1
    rw [show (t == 1) = true by simpa using z1] at e1
    rw [ite_t e1, m1_ok _ (.d (rowsD fs)) fs one rfl rfl rfl f3 hone (by omega)]
    refine ⟨h, _, _, _, _, (srt (fs ++ [one]), ts), rfl, ok, rfl, rfl, ⟨?_, t3, by rw [srt_len]; simp; omega, by show ts.length ≤ n + 1; omega⟩⟩
    intro r hr
    rcases List.mem_append.mp (srt_mem.mp hr) with z | z
    · exact f3 r z
    · rw [List.mem_singleton.mp z]; exact hone
  have e1 := e 1
  rw [show (t == 1) = false by simpa using z1] at e1
  rw [ite_f e1]
  by_cases z2 : t = 2
  · have e2 := e 2
    rw [show (t == 2) = true by simpa using z2] at e2
    rw [ite_t e2, m2_ok _ (.d (rowsD fs)) fs at' rfl rfl rfl (by omega)]
    refine ⟨h, _, _, _, _, (cutL none (some (at' : Int)) fs ++ cutL (some ((at' : Int) + 1)) none fs, ts), rfl, ok, rfl, rfl, ⟨?_, t3, ?_, by show ts.length ≤ n + 1; omega⟩⟩
    · intro r hr
      rcases List.mem_append.mp hr with z | z
      · exact f3 r (cutL_mem z)
      · exact f3 r (cutL_mem z)
    · show (_ ++ _ : List _).length ≤ _
      rw [List.length_append, cutL_to, show ((at' : Int) + 1) = ((at' + 1 : Nat) : Int) from rfl, cutL_from]
      omega
  have e2 := e 2
  rw [show (t == 2) = false by simpa using z2] at e2
  rw [ite_f e2]
  by_cases z3 : t = 3
  · have e3 := e 3
    rw [show (t == 3) = true by simpa using z3] at e3
    rw [ite_t e3, seq_nx (m3a_ok _ (.d (rowsD fs)) fs at' rfl rfl rfl (by omega))]
    obtain ⟨h', gs, e4, k4, hg⟩ := m3b_ok h ok r1 (dI L) (dI k) (dI t) (.d (rowsD fs)) (.d (rowsD ts)) q7 (.d (rowD one)) (dI at') .junk fs (twice at' fs) rfl
    refine ⟨h', _, _, _, _, (gs, ts), e4, k4, rfl, rfl, ⟨?_, t3, ?_, by show ts.length ≤ n + 1; omega⟩⟩
    · intro r hr
      rcases hg with rfl | rfl
      · exact f3 r (List.mem_reverse.mp hr)
      · exact f3 r (twice_mem hr)
    · show gs.length ≤ n + 1
      rcases hg with rfl | rfl
      · rw [List.length_reverse]; omega
      · have := twice_len at' fs; omega
  have e3 := e 3
  rw [show (t == 3) = false by simpa using z3] at e3
  rw [ite_f e3]
  by_cases z4 : t = 4
  · have e4 := e 4
    rw [show (t == 4) = true by simpa using z4] at e4
    rw [ite_t e4]
    obtain ⟨h', gs, e5, k5, g3, gl⟩ := m4_ok h ok r1 (dI L) (dI k) (dI t) (.d (rowsD fs)) (.d (rowsD ts)) q7 (dI at') .junk .junk ts one rfl t3 hone (by omega)
    exact ⟨h', _, _, _, _, (fs, gs), e5, k5, rfl, rfl, ⟨f3, g3, by show fs.length ≤ n + 1; omega, by show gs.length ≤ n + 1; omega⟩⟩
  have e4 := e 4
  rw [show (t == 4) = false by simpa using z4] at e4
  rw [ite_f e4]
  by_cases z5 : t = 5
  · have e5 := e 5
    rw [show (t == 5) = true by simpa using z5] at e5
    rw [ite_t e5, m5_ok _ (.d (rowsD fs)) (.d (rowsD ts)) fs ts at' rfl rfl rfl rfl rfl f3 t3 (by omega) (by omega)]
    refine ⟨h, _, _, _, _, (fs, srt (ts ++ cutL (some (at' : Int)) (some ((at' : Int) + 1)) fs)), rfl, ok, rfl, rfl, ⟨f3, ?_, by show fs.length ≤ n + 1; omega, ?_⟩⟩
    · intro r hr
      rcases List.mem_append.mp (srt_mem.mp hr) with z | z
      · exact t3 r z
      · exact f3 r (cutL_mem z)
    · show (srt _).length ≤ n + 1
      have := cutL_one at' fs
      rw [srt_len, List.length_append]
      omega
  have e5 := e 5
  rw [show (t == 5) = false by simpa using z5] at e5
  rw [ite_f e5]
  obtain ⟨h', p', e6, k6, hp'⟩ := m6_ok h ok r1 ps h1 hne hl L k t (.d (rowsD fs)) (.d (rowsD ts)) q7 (.d (rowD one)) (dI at') .junk .junk
  exact ⟨h', _, _, _, _, p', e6, k6, rfl, rfl, (hps p' hp').mono (by omega)⟩
end TL
set_option linter.all false
set_option maxRecDepth 100000
set_option maxHeartbeats 4000000
namespace TL
open PySem PySem.Spec PyProof.Rows L2 TP
variable [TabsOf]
theorem turned_ok (h : Hs) (ok : Hok h) (L : Int) (hL : 1 ≤ L ∧ L ≤ 6) (ps : List Stage) (n m : Nat) (hn : n ≤ 62) (hm : m ≤ 90) (hp : PlOk n m ps) (r1 : R) (h1 : vw r1 = some (.list (planD ps))) :
    ∃ h' qs r r', g__law_turned [rH h, r1, dI L] = .ok r [rH h', r', dI L] ∧ vw r = some (.list (planD qs)) ∧ Hok h' ∧ PlOk (n + 1) (m + 1) qs ∧ isJ r' = false := by
  have lenp : (planD ps).length = ps.length := by unfold planD; simp
  have hl := hp.len
  have a1 : cN lenK [.s 1] [rH h, r1, dI L, .junk, .junk, .junk, .junk, .junk, .junk, .junk, .junk, .junk] = .ok (dI ps.length) [rH h, r1, dI L, .junk, .junk, .junk, .junk, .junk, .junk, .junk, .junk, .junk] := v_s (i := 1) rfl h1 (by show some (dI ((planD ps).length : Nat)) = _; rw [lenp])
  obtain ⟨k, h2, c1, k0, k1, ok1⟩ := nx_e h h ok (ps.length + 1) (by omega) _ _ _ (v_ec (k := addK) (y := .int 1) a1 rfl rfl)
  have s1 := cSet_ok (i := 3) c1
  obtain ⟨t, h3, c2, t0, t1, ok2⟩ := nx_c h2 ok1 7 (by omega) [r1, dI L, dI k, .junk, .junk, .junk, .junk, .junk, .junk, .junk, .junk]
  have s2 := cSet_ok (i := 4) c2
  have nj1 := jV h1
  have s1' : cSet 3 (cCall g__law_next [.s 0, .e (cN addK [.e (cN lenK [.s 1]), .c (.int 1)])]) [rH h, r1, dI L, .junk, .junk, .junk, .junk, .junk, .junk, .junk, .junk, .junk] = .ok .nx [rH h2, r1, dI L, dI k, .junk, .junk, .junk, .junk, .junk, .junk, .junk, .junk] := s1
  have s2' : cSet 4 (cCall g__law_next [.s 0, .c (.int 7)]) [rH h2, r1, dI L, dI k, .junk, .junk, .junk, .junk, .junk, .junk, .junk, .junk] = .ok .nx (stT h3 r1 L k t .junk .junk .junk .junk .junk .junk .junk) := s2
  have a2 : cN lenK [.s 1] (stT h3 r1 L k t .junk .junk .junk .junk .junk .junk .junk) = .ok (dI ps.length) (stT h3 r1 L k t .junk .junk .junk .junk .junk .junk .junk) := v_s (i := 1) rfl h1 (by show some (dI ((planD ps).length : Nat)) = _; rw [lenp])
  have c3 := for_b (tb_ok (v_se (k := eqK) (i := 3) rfl rfl a2 rfl rfl (eqK_int k ps.length))) (eq4 h3 r1 L k t 0 .junk .junk .junk .junk .junk .junk .junk)
  by_cases hz : (k == (ps.length : Int) || t == 0) = true
  · rw [hz] at c3
    obtain ⟨h4, qs, e4, k4, p4⟩ := ends4_ok h3 ok2 ps n m hp (by omega) r1 h1 [dI L, dI k, dI t, .junk, .junk, .junk, .junk, .junk, .junk, .junk]
    refine ⟨h4, qs, .d (.list (planD qs)), .d (.list (planD ps)), (run_rt (ρ := [rH h4, .d (.list (planD ps)), dI L, dI k, dI t, .junk, .junk, .junk, .junk, .junk, .junk, .junk]) rfl ?_).trans rfl, rfl, k4, ⟨fun p hq => (p4.st p hq).mono (by omega), p4.len⟩, rfl⟩
    show p__law_turned [rH h, r1, dI L, .junk, .junk, .junk, .junk, .junk, .junk, .junk, .junk, .junk] = _
    unfold p__law_turned
    rw [seq_nx s1', seq_nx s2']
    exact seq_rt ((ite_t c3).trans (ret_ok e4))
  have hz' : (k == (ps.length : Int) || t == 0) = false := by simpa using hz
  rw [hz'] at c3
  have hk : k < ps.length := by
    have : (k == (ps.length : Int)) = false := (Bool.or_eq_false_iff.mp hz').1
    have : k ≠ ps.length := by simpa using this
    omega
  obtain ⟨i, rfl⟩ := Int.eq_ofNat_of_zero_le k0
  have hi : i < ps.length := by omega
  have g : (planD ps)[i]? = some (stepD ps[i]) := by
    unfold planD
    rw [List.getElem?_map, List.getElem?_eq_getElem hi]; rfl
  have hpi := hp.st ps[i] (List.getElem_mem hi)
  generalize hpp : ps[i] = p at g hpi
  have hmem : p ∈ ps := by rw [← hpp]; exact List.getElem_mem hi
  have s4 : cAsg (cN ixK [.s 1, .s 3]) (gT [gN 5, gN 6]) (stT h3 r1 L i t .junk .junk .junk .junk .junk .junk .junk) = .ok .nx (stT h3 r1 L i t (.d (rowsD p.1)) (.d (rowsD p.2)) .junk .junk .junk .junk .junk) := by
    have e : cN ixK [.s 1, .s 3] (stT h3 r1 L i t .junk .junk .junk .junk .junk .junk .junk) = .ok (.d (stepD p)) (stT h3 r1 L i t .junk .junk .junk .junk .junk .junk .junk) := v_ss (k := ixK) (i := 1) (j := 3) rfl h1 rfl rfl (ix_nat g)
    unfold cAsg
    rw [e]; rfl
  have s5 : cSet 7 (cLst [.e (cTup [.c (.int 0), .c (.int 0), .c (.int 0)]), .e (cTup [.e (cVar 2), .c (.int 0), .c (.int 0)]), .e (cTup [.e (cN subK [.s 2, .c (.int 1)]), .e (cN negK [.c (.int 1)]), .c (.int 0)]), .e (cTup [.e (cN subK [.s 2, .c (.int 1)]), .c (.int 0), .c (.int 99)]), .e (cTup [.c (.int 0), .c (.int 1), .c (.int 0)]), .e (cTup [.e (cN subK [.s 2, .c (.int 1)]), .c (.int 0), .c (.int 0)])]) (stT h3 r1 L i t (.d (rowsD p.1)) (.d (rowsD p.2)) .junk .junk .junk .junk .junk) = .ok .nx (stT h3 r1 L i t (.d (rowsD p.1)) (.d (rowsD p.2)) (.ol ([[0, 0, 0], [L, 0, 0], [L - 1, -1, 0], [L - 1, 0, 99], [0, 1, 0], [L - 1, 0, 0]].map rowD)) .junk .junk .junk .junk) := rfl
  obtain ⟨z, h6, c6, z0, z1, ok6⟩ := nx_c h3 ok2 6 (by omega) [r1, dI L, dI i, dI t, .d (rowsD p.1), .d (rowsD p.2), .ol ([[0, 0, 0], [L, 0, 0], [L - 1, -1, 0], [L - 1, 0, 99], [0, 1, 0], [L - 1, 0, 0]].map rowD), .junk, .junk, .junk, .junk]
  obtain ⟨one, hone, s6⟩ : ∃ one : List Int, one.length = 3 ∧ cSet 8 (cN ixK [.s 7, .e (cCall g__law_next [.s 0, .c (.int 6)])]) (stT h3 r1 L i t (.d (rowsD p.1)) (.d (rowsD p.2)) (.ol ([[0, 0, 0], [L, 0, 0], [L - 1, -1, 0], [L - 1, 0, 99], [0, 1, 0], [L - 1, 0, 0]].map rowD)) .junk .junk .junk .junk) = .ok .nx (stT h6 r1 L i t (.d (rowsD p.1)) (.d (rowsD p.2)) (.ol ([[0, 0, 0], [L, 0, 0], [L - 1, -1, 0], [L - 1, 0, 99], [0, 1, 0], [L - 1, 0, 0]].map rowD)) (.d (rowD one)) .junk .junk .junk) := by
    have : z = 0 ∨ z = 1 ∨ z = 2 ∨ z = 3 ∨ z = 4 ∨ z = 5 := by omega
    rcases this with rfl | rfl | rfl | rfl | rfl | rfl
    · exact ⟨[0, 0, 0], rfl, cSet_ok (i := 8) (v_se (k := ixK) (i := 7) rfl rfl c6 rfl rfl rfl)⟩
    · exact ⟨[L, 0, 0], rfl, cSet_ok (i := 8) (v_se (k := ixK) (i := 7) rfl rfl c6 rfl rfl rfl)⟩
    · exact ⟨[L - 1, -1, 0], rfl, cSet_ok (i := 8) (v_se (k := ixK) (i := 7) rfl rfl c6 rfl rfl rfl)⟩
    · exact ⟨[L - 1, 0, 99], rfl, cSet_ok (i := 8) (v_se (k := ixK) (i := 7) rfl rfl c6 rfl rfl rfl)⟩
    · exact ⟨[0, 1, 0], rfl, cSet_ok (i := 8) (v_se (k := ixK) (i := 7) rfl rfl c6 rfl rfl rfl)⟩
    · exact ⟨[L - 1, 0, 0], rfl, cSet_ok (i := 8) (v_se (k := ixK) (i := 7) rfl rfl c6 rfl rfl rfl)⟩
  generalize hodd : (R.ol ([[0, 0, 0], [L, 0, 0], [L - 1, -1, 0], [L - 1, 0, 99], [0, 1, 0], [L - 1, 0, 0]].map rowD)) = q7 at s5 s6
  have a7 : cN maxK [.c (.int 1), .e (cN lenK [.s 5])] (stT h6 r1 L i t (.d (rowsD p.1)) (.d (rowsD p.2)) q7 (.d (rowD one)) .junk .junk .junk) = .ok (dI (mx 1 ((p.1.map rowD).length : Nat))) (stT h6 r1 L i t (.d (rowsD p.1)) (.d (rowsD p.2)) q7 (.d (rowD one)) .junk .junk .junk) :=
    v_ce (k := maxK) (v_s (i := 5) rfl rfl rfl) rfl rfl
  have hpc := hpi.c
  have mm := mx_ge 1 ((p.1.map rowD).length : Nat)
  rw [List.length_map] at a7 mm
  obtain ⟨at0, h7, c7, at1, at2, ok7⟩ := nx_e h6 h6 ok6 (mx 1 (p.1.length : Nat)) (by omega) _ _ _ a7
  obtain ⟨at', rfl⟩ := Int.eq_ofNat_of_zero_le at1
  have s7 : cSet 9 (cCall g__law_next [.s 0, .e (cN maxK [.c (.int 1), .e (cN lenK [.s 5])])]) (stT h6 r1 L i t (.d (rowsD p.1)) (.d (rowsD p.2)) q7 (.d (rowD one)) .junk .junk .junk) = .ok .nx (stT h7 r1 L i t (.d (rowsD p.1)) (.d (rowsD p.2)) q7 (.d (rowD one)) (dI at') .junk .junk) := cSet_ok (i := 9) c7
  obtain ⟨h8, q5, q6, q10, q11, p', s8, ok8, t5, t6, st8⟩ := mid_ok h7 ok7 r1 ps h1 (by omega) (by omega) n (by omega) hp.st L i t p hmem one hone at' q7
  have b1 := sl_ok (f := stepD) (xs := ps) (ρ := stT h8 r1 L i t q5 q6 q7 (.d (rowD one)) (dI at') q10 q11) (i := 1) none (some (cVar 3)) none (some (i : Int)) rfl h1 rfl (part_some (var_d rfl))
  have v5 : cVar 5 (stT h8 r1 L i t q5 q6 q7 (.d (rowD one)) (dI at') q10 q11) = .ok (.d (rowsD p'.1)) (stT h8 r1 L i t (.d (rowsD p'.1)) q6 q7 (.d (rowD one)) (dI at') q10 q11) := by simp [cVar, t5]
  have v6 : cVar 6 (stT h8 r1 L i t (.d (rowsD p'.1)) q6 q7 (.d (rowD one)) (dI at') q10 q11) = .ok (.d (rowsD p'.2)) (stT h8 r1 L i t (.d (rowsD p'.1)) (.d (rowsD p'.2)) q7 (.d (rowD one)) (dI at') q10 q11) := by simp [cVar, t6]
  have tp := tup_ok (rs := [.d (rowsD p'.1), .d (rowsD p'.2)]) (ops_e v5 (ops_e v6 (show cOps [] _ = .ok [] _ from rfl))) rfl (by simp)
  have ls := lst_ok (rs := [.d (stepD p')]) (ops_e (tp.trans rfl) (show cOps [] _ = .ok [] _ from rfl)) rfl (by simp)
  have b2 := sl_ok (f := stepD) (xs := ps) (ρ := stT h8 r1 L i t (.d (rowsD p'.1)) (.d (rowsD p'.2)) q7 (.d (rowD one)) (dI at') q10 q11) (i := 1) (some (cN addK [.s 3, .c (.int 1)])) none (some ((i : Int) + 1)) none rfl h1 (part_some (v_sc (i := 3) rfl rfl rfl)) rfl
  have q1 : (cutL none (some (i : Int)) ps).length ≤ i := by rw [cutL_to]; omega
  have q2 : (cutL (some ((i : Int) + 1)) none ps).length = ps.length - (i + 1) := cutL_from (i + 1) ps
  have fin := v_ee (k := addK) (v_ee (k := addK) b1 rfl ls rfl (addK_map stepD (cutL none (some (i : Int)) ps) [p'] (by simp; omega))) rfl b2 rfl (addK_map stepD _ _ (by rw [List.length_append]; simp; omega))
  have run : g__law_turned [rH h, r1, dI L] = .ok (.ol (planD ((cutL none (some (i : Int)) ps ++ [p']) ++ cutL (some ((i : Int) + 1)) none ps))) [rH h8, r1, dI L] := by
    refine (run_rt (ρ := stT h8 r1 L i t (.d (rowsD p'.1)) (.d (rowsD p'.2)) q7 (.d (rowD one)) (dI at') q10 q11) rfl ?_).trans rfl
    show p__law_turned [rH h, r1, dI L, .junk, .junk, .junk, .junk, .junk, .junk, .junk, .junk, .junk] = _
    unfold p__law_turned
    rw [seq_nx s1', seq_nx s2']
    refine (seq_nx (ite_nx c3)).trans ((seq_nx s4).trans ((seq_nx s5).trans ((seq_nx s6).trans ((seq_nx s7).trans ((seq_nx s8).trans (ret_ok fin))))))
  refine ⟨h8, _, _, r1, run, rfl, ok8, ⟨?_, ?_⟩, nj1⟩
  · intro q hq
    rcases List.mem_append.mp hq with z | z
    · rcases List.mem_append.mp z with z | z
      · exact (hp.st q (cutL_mem z)).mono (by omega)
      · rw [List.mem_singleton.mp z]; exact st8
    · exact (hp.st q (cutL_mem z)).mono (by omega)
  · rw [List.length_append, List.length_append]
    simp
    omega
end TL
set_option linter.all false
set_option maxRecDepth 100000
set_option maxHeartbeats 4000000
namespace TL
open PySem PySem.Spec PyProof.Rows L2 TP
variable [TabsOf]
theorem alike_b (x y : Bool) : g__law_alike 6 [dB x, dB y] = .ok (dB (x == y)) [dB x, dB y] := by
  cases x <;> cases y <;> rfl
end TL
set_option linter.all false
set_option maxRecDepth 100000
set_option maxHeartbeats 4000000
namespace TL
open PySem PySem.Spec PyProof.Rows L2 TP
variable [TabsOf]
theorem canLay_plan : ∀ ps : List Stage, PyData.canLayAll0 (planD ps) = true
  | [] => by simp [planD, PyData.canLayAll0]
  | p :: ps => by
    have h := canLay_plan ps
    unfold planD at *
    simp only [List.map_cons, PyData.canLayAll0, PyData.canLay0, canLay_rows, h]
    rfl
theorem depth_plan : ∀ ps : List Stage, PyData.depthAll (planD ps) ≤ 3
  | [] => by simp [planD, PyData.depthAll]
  | p :: ps => by
    have h := depth_plan ps
    have h1 := depth_rows p.1
    have h2 := depth_rows p.2
    unfold planD at *
    simp only [List.map_cons, PyData.depthAll, PyData.depth] at *
    omega
theorem shaped_plan (ps : List Stage) : SeqAt.shaped (.list (planD ps)) = true := by
  have h := depth_plan ps
  have d : (PyData.list (planD ps)).depth ≤ 64 := by
    rw [PyData.depth]
    omega
  unfold SeqAt.shaped
  rw [decide_eq_true d]
  simp [PyData.canLay0, canLay_plan]
theorem plain_rows (rs : List (List Int)) : plainDs (rs.map rowD) = true := by
  induction rs with
  | nil => simp [plainDs]
  | cons r rs ih => simp [plainDs, plain_row, ih]
theorem plain_plan : ∀ ps : List Stage, plainDs (planD ps) = true
  | [] => by simp [planD, plainDs]
  | p :: ps => by
    have h := plain_plan ps
    unfold planD at *
    simp [plainDs, plainD, plain_rows, h]
theorem neK_plan (as bs : List Stage) (b : Bool) (hb : b = true ↔ planD as = planD bs) : neK [.list (planD as), .list (planD bs)] = some (dB (!b)) := by
  have : neK [.list (planD as), .list (planD bs)] = if (notDict (.list (planD as)) && notDict (.list (planD bs)) && SeqAt.shaped (.list (planD as)) && SeqAt.shaped (.list (planD bs))) = true then some (.d (.bool (!PyData.eqv (.list (planD as)) (.list (planD bs))))) else none := rfl
  rw [this, if_pos (by rw [shaped_plan, shaped_plan]; rfl)]
  have h := eqv_plain (x := .list (planD as)) (y := .list (planD bs)) (by simp [plainD, plain_plan]) (by simp [plainD, plain_plan])
  have e : PyData.eqv (.list (planD as)) (.list (planD bs)) = b := by
    rw [Bool.eq_iff_iff, h, hb]
    constructor
    · intro z; injection z
    · intro z; rw [z]
  rw [e]
theorem neK_same (ps : List Stage) : neK [.list (planD ps), .list (planD ps)] = some (dB false) := neK_plan ps ps true (by simp)
theorem neK_nil (ps : List Stage) : neK [.list (planD ps), .list []] = some (dB (!decide (ps = []))) := neK_plan ps [] _ (by cases ps <;> simp [planD])
end TL
set_option linter.all false
set_option maxRecDepth 100000
set_option maxHeartbeats 4000000
namespace TL
open PySem PySem.Spec PyProof.Rows L2 TP
variable [TabsOf]
local macro_rules | `(tactic| bv_omega) => `(tactic| repeat (first
  | simp only [w_seq, kSeq_nx, kSeq_rt, kSeq_ct, kSeq_bk, w_nx, w_bk, w_ct, w_ret, kRet_ok, w_retN, w_drop, kDrop_ok, w_set, kSet_ok, kO_some, w_asg, kAsg_ok, w_ite, kIte_t, kIte_f, w_raise, w_par2, kPar2_ok, w_par3, kPar3_ok,
    w_run, kRun_rt, kRun_nx, kRunX_ok, List.take_succ_cons, List.take_zero, List.length_cons, List.length_nil, Nat.sub_self, List.replicate_succ, List.replicate_zero, List.cons_append, List.nil_append,
    wo_nil, wo_e, kOe_ok, wo_c, wo_s, wo_p, kOt_ok, kOs_ok, kOp_ok, kSl_d, kSl_ol, kSl_on, kSl_tn, kSl_dt, kSl_dk, kSl_ob, w_c, w_var, kVar_d, kVar_ol, w_mv, kMv_d, kMv_ol, kMv_on, kMv_tn, kMv_dt, kMv_dk, kMv_ob, w_get, kGet_d, w_n, kN_ok,
    w_andE, kAndE_t, kAndE_f, w_orE, kOrE_t, kOrE_f, kBothE_ok, w_notE, kNotE_ok, w_if, kIf_t, kIf_f, kInt_ok, w_chain, kCh1_ok, kCh2_c, kCh2_v, kChV_i, w_tup, kTup_ok, w_lst, kLst_ok, mkT1d, mkT2d, mkT3d, mkT5d, mkL0, mkL1, mkL2, mkL3, mkL4, mkL5, mkL6, row3, Nat.reduceLeDiff, true_and,
    w_fz, kFz_ok, toD_d, toD_ol, w_call, kCall_ok, kPut_ok, kPutX_ok, takeHs_s, takeHs_t, takeHs_n, kTk_d, kTk_ol, kTk_on, kTk_tn, kTk_dt, kTk_dk, kTk_ob, putHs_s, putHs_t, putHs_n, w_peek, kPeek_ok, kSc_i, kSc_b, lookD_n, lookD_t, lookD_s,
    w_slice, kSl0_ok, kSl1_ok, w_part0, w_part1, kPart_ok, kLs_d, kLs_ol, w_revD, kRev_ok, w_rep, kRep_ok, w_dict0, w_mut, kMut_ok, hdA_d, hdArgs_n, hdArgs_t, hdArgs_s, w_mutT, kMT1_ok, w_meth, kOb_ok, getP_n, getP_c, setP_n, setP_c, setK_on, setK_tn, setK_dk, setK_ob, kids_on, kids_tn, kids_dk, kids_ob,
    w_store, kStore_ok, qv_c, qv_s, qv_p, w_tb, kTb_ok, w_and, kAnd_t, kAnd_f, w_or, kOr_t, kOr_f, kBoth_ok, w_not, kNot_ok, w_yes, w_for, w_sList, w_sTup, kTs_d, w_sStr, kStrS_ok, w_sRng, kRng_ok, w_sZip, kBody_nx, kBody_ct, kBody_bk, kBody_rt, w_comp, kCE_d, kCE_ol, wipeR_n, wipeR_c, kCT_t, kCT_f,
    hviews, hview_t, hview_s, hview_p, vwd, vwol, vwdt, List.getElem?_cons_zero, List.getElem?_cons_succ, List.set_cons_zero, List.set_cons_succ, Option.bind_some, Option.map_some, Option.bind_none, Option.map_none, gN_ok, gT_ok, gAll, parts_t, parts_row, List.map_cons, List.map_nil, Bool.not_true, Bool.not_false, hdRs, List.all_cons, List.all_nil, Bool.and_true, Op.quiet,
    eqK_int, neK_int, eqK_row, neK_row, inK_row, notInK_row, eqK_rows, neK_rows, ltK_int, leK_int, gtK_int, geK_int, minK_int, maxK_int, minK_int3, lenK_map, listK_l, addK_int, subK_int, negK_int, intK_bool, intK_int, isNotK_b, isK_b, cutD_map, kMutI_l, isi2_i, isi2_b, isi2_s, isi2_n, isi2_l, isi2_t, isi1_l, isi1_t, isi0_l, isi0_t, isN_i, isN_b, isN_s, isN_n, isi_2i, isi_2b, isi_2s, isi_3i, isi_3b, isi_4i, eqK_bool, neK_bool, beq_self_eq_true]
  | rw [rng1_i (by omega)] | rw [rng2_i (by omega) (by omega)] | rw [modK_ok (by omega)] | rw [fdivK_ok (by omega)] | rw [mulK_l (by decide)] | rw [mulK_r (by decide)]
  | rw [appendM_map (by first | omega | (simp; omega))] | rw [appendM_d (by first | omega | (simp; omega))] | rw [addK_map _ _ _ (by first | omega | (simp; omega))] | rw [kRep1_ok (by first | omega | (simp; omega))]))
/-! ### what the kernels tell -/
theorem neK_int (a b : Int) : neK [.int a, .int b] = some (dB (!(a == b))) := by
  have e : neK [.int a, .int b] = some (.d (.bool (!PyData.eqv (.int a) (.int b)))) := (rfl)
  rw [e]; simp [PyData.eqv]
theorem ltK_int (a b : Int) : ltK [.int a, .int b] = some (dB (decide (a < b))) := (rfl)
theorem leK_int (a b : Int) : leK [.int a, .int b] = some (dB (decide (a ≤ b))) := (rfl)
theorem gtK_int (a b : Int) : gtK [.int a, .int b] = some (dB (decide (b < a))) := (rfl)
theorem geK_int (a b : Int) : geK [.int a, .int b] = some (dB (decide (b ≤ a))) := (rfl)
theorem mn_min (a b : Int) : mn a b = min a b := by
  unfold mn
  split <;> omega
theorem mx_max (a b : Int) : mx a b = max a b := by
  unfold mx
  split <;> omega
theorem minK_int (a b : Int) : minK [.int a, .int b] = some (dI (min a b)) := by
  rw [← mn_min]; rfl
theorem maxK_int (a b : Int) : maxK [.int a, .int b] = some (dI (max a b)) := by
  rw [← mx_max]; rfl
theorem minK_int3 (a b c : Int) : minK [.int a, .int b, .int c] = some (dI (min (min a b) c)) := by
  rw [← mn_min, ← mn_min]; rfl
theorem lenK_map {α : Type} (f : α → PyData) (xs : List α) : lenK [.list (xs.map f)] = some (dI (xs.length : Nat)) := by
  show some (dI ((xs.map f).length : Nat)) = _
  rw [List.length_map]
theorem addK_int (a b : Int) : addK [.int a, .int b] = some (dI (a + b)) := (rfl)
theorem subK_int (a b : Int) : subK [.int a, .int b] = some (dI (a - b)) := (rfl)
theorem negK_int (a : Int) : negK [.int a] = some (dI (-a)) := (rfl)
theorem intK_bool (b : Bool) : intK [.bool b] = some (dI (bI b)) := (rfl)
theorem pick2 (x y : PyData) {i : Int} (h : 0 ≤ i ∧ i < 2) : ∃ m, (m = x ∨ m = y) ∧ ixK [.list [x, y], .int i] = some (.d m) := by
  have : i = 0 ∨ i = 1 := by omega
  rcases this with rfl | rfl
  · exact ⟨x, .inl rfl, rfl⟩
  · exact ⟨y, .inr rfl, rfl⟩
theorem pick3 (x y z : PyData) {i : Int} (h : 0 ≤ i ∧ i < 3) : ∃ m, (m = x ∨ m = y ∨ m = z) ∧ ixK [.list [x, y, z], .int i] = some (.d m) := by
  have : i = 0 ∨ i = 1 ∨ i = 2 := by omega
  rcases this with rfl | rfl | rfl
  · exact ⟨x, .inl rfl, rfl⟩
  · exact ⟨y, .inr (.inl rfl), rfl⟩
  · exact ⟨z, .inr (.inr rfl), rfl⟩
theorem pick2i (a b : Int) {i : Int} (h : 0 ≤ i ∧ i < 2) : ∃ m, (m = a ∨ m = b) ∧ ixK [.list [.int a, .int b], .int i] = some (dI m) := by
  obtain ⟨m, e1 | e1, e2⟩ := pick2 (.int a) (.int b) h <;> subst e1
  · exact ⟨a, .inl rfl, e2⟩
  · exact ⟨b, .inr rfl, e2⟩
theorem vw_cases {r : R} {xs : List PyData} (h : vw r = some (.list xs)) : r = .d (.list xs) ∨ r = .ol xs := by
  cases r with
  | d x => exact .inl (by rw [vw] at h; cases h; rfl)
  | ol ys => exact .inr (by rw [vw] at h; cases h; rfl)
  | dt kvs => rw [vw] at h; cases h
  | _ => cases h
/-! ### promises of shared defs -/
variable {P : EPost} {X : XPost}
theorem mix_sp (ns : List Int) (hn : ns.length ≤ 63) (z : Int) (k : ∀ h, Hok h → P (rH h) [.d (.list (ns.map .int)), dI z]) : Wf (g__law_mix [.d (.list (ns.map .int)), dI z]) P X := by
  obtain ⟨h, e, ok⟩ := mix_ok ns hn z
  exact Wf.of e (k h ok)
theorem next_sp {h : Hs} {m : Int} (ok : Hok h) (hm : 0 < m ∧ m < 1073741824) (k : ∀ r h', 0 ≤ r → r < m → Hok h' → P (dI r) [rH h', dI m]) : Wf (g__law_next [rH h, dI m]) P X := by
  obtain ⟨r, h', e, a, b, c⟩ := next_ok h m hm ok
  exact Wf.of e (k r h' a b c)
theorem side_sp {l : Int} (h : 0 ≤ l ∧ l < 6) (k : P (dI (sideI l)) [dI l]) : Wf (g__law_side [dI l]) P X := Wf.of (side_ok l h) k
theorem view_sp {h : Hs} {L : Int} (ok : Hok h) (hL : 1 ≤ L ∧ L ≤ 6) (k : ∀ v h', VOk L v → Hok h' → P (.d v.d) [rH h', dI L]) : Wf (g__law_view [rH h, dI L]) P X := by
  obtain ⟨v, h', e, a, b⟩ := view_ok h ok L hL
  exact Wf.of e (k v h' a b)
theorem near_sp {h : Hs} {L : Int} {v : VV} (ok : Hok h) (hL : 1 ≤ L ∧ L ≤ 6) (hv : VOk L v) (k : ∀ v' h', VOk L v' → Hok h' → P (.d v'.d) [rH h', dI L, .d v.d]) : Wf (g__law_near [rH h, dI L, .d v.d]) P X := by
  obtain ⟨v', h', e, a, b⟩ := near_ok h ok L hL v hv
  exact Wf.of e (k v' h' a b)
theorem way_sp {h : Hs} {L m : Int} (ok : Hok h) (hL : 1 ≤ L ∧ L ≤ 6) (hm : 0 < m ∧ m ≤ 40) (k : ∀ vs h', (∀ v ∈ vs, VOk L v) → 1 ≤ vs.length → (vs.length : Int) ≤ m → Hok h' → P (.ol (viewsD vs)) [rH h', dI L, dI m]) : Wf (g__law_way [rH h, dI L, dI m]) P X := by
  obtain ⟨vs, h', e, a, b, c, d⟩ := way_ok h ok L hL m hm
  exact Wf.of e (k vs h' a b c d)
theorem wants_sp {L : Int} {v : VV} (hv : VOk L v) (k : P (.ol ((wantsI v).map rowD)) [.d v.d]) : Wf (g__law_wants [.d v.d]) P X := Wf.of (wants_ok L v hv) k
theorem needs_sp {L : Int} {vs : List VV} {r0 : R} (hv : ∀ v ∈ vs, VOk L v) (hl : vs.length ≤ 100) (h0 : toD r0 = some (.list (viewsD vs))) (k : P (.ol (vs.map fun v => rowsD (needsI v))) [.d (.list (viewsD vs))]) : Wf (g__law_needs [r0]) P X := Wf.of (needs_ok L vs hv hl r0 h0) k
theorem room_sp {h : Hs} {L : Int} {vs : List VV} {r0 : R} (ok : Hok h) (hv : ∀ v ∈ vs, VOk L v) (hl : vs.length ≤ 100) (hne : 1 ≤ vs.length) (h0 : toD r0 = some (.list (viewsD vs))) (nj0 : isJ r0 = false) (k : ∀ r h', 1 ≤ r → r ≤ 28 → (∀ v ∈ vs, ((needsI v).length : Int) ≤ r) → Hok h' → P (dI r) [rH h', .d (.list (viewsD vs))]) : Wf (g__law_room [rH h, r0]) P X := by
  obtain ⟨r, h', e, a, b, c, d⟩ := room_ok h ok L vs hv hl hne r0 h0 nj0
  exact Wf.of e (k r h' a b c d)
theorem alike_bsp {x y : Bool} (k : P (dB (x == y)) [dB x, dB y]) : Wf (g__law_alike 6 [dB x, dB y]) P X := Wf.of (alike_b x y) k
end TL
set_option linter.all false
set_option maxRecDepth 100000
set_option maxHeartbeats 4000000
namespace TL
open PySem PySem.Spec PyProof.Rows L2 TP
variable [TabsOf]
local macro_rules | `(tactic| bv_omega) => `(tactic| repeat (first
  | simp only [w_seq, kSeq_nx, kSeq_rt, kSeq_ct, kSeq_bk, w_nx, w_bk, w_ct, w_ret, kRet_ok, w_retN, w_drop, kDrop_ok, w_set, kSet_ok, kO_some, w_asg, kAsg_ok, w_ite, kIte_t, kIte_f, w_raise, w_par2, kPar2_ok, w_par3, kPar3_ok,
    w_run, kRun_rt, kRun_nx, kRunX_ok, List.take_succ_cons, List.take_zero, List.length_cons, List.length_nil, Nat.sub_self, List.replicate_succ, List.replicate_zero, List.cons_append, List.nil_append,
    wo_nil, wo_e, kOe_ok, wo_c, wo_s, wo_p, kOt_ok, kOs_ok, kOp_ok, kSl_d, kSl_ol, kSl_on, kSl_tn, kSl_dt, kSl_dk, kSl_ob, w_c, w_var, kVar_d, kVar_ol, w_mv, kMv_d, kMv_ol, kMv_on, kMv_tn, kMv_dt, kMv_dk, kMv_ob, w_get, kGet_d, w_n, kN_ok,
    w_andE, kAndE_t, kAndE_f, w_orE, kOrE_t, kOrE_f, kBothE_ok, w_notE, kNotE_ok, w_if, kIf_t, kIf_f, kInt_ok, w_chain, kCh1_ok, kCh2_c, kCh2_v, kChV_i, w_tup, kTup_ok, w_lst, kLst_ok, mkT1d, mkT2d, mkT3d, mkT5d, mkL0, mkL1, mkL2, mkL3, mkL4, mkL5, mkL6, row3, Nat.reduceLeDiff, true_and,
    w_fz, kFz_ok, toD_d, toD_ol, w_call, kCall_ok, kPut_ok, kPutX_ok, takeHs_s, takeHs_t, takeHs_n, kTk_d, kTk_ol, kTk_on, kTk_tn, kTk_dt, kTk_dk, kTk_ob, putHs_s, putHs_t, putHs_n, w_peek, kPeek_ok, kSc_i, kSc_b, lookD_n, lookD_t, lookD_s,
    w_slice, kSl0_ok, kSl1_ok, w_part0, w_part1, kPart_ok, kLs_d, kLs_ol, w_revD, kRev_ok, w_rep, kRep_ok, w_dict0, w_mut, kMut_ok, hdA_d, hdArgs_n, hdArgs_t, hdArgs_s, w_mutT, kMT1_ok, w_meth, kOb_ok, getP_n, getP_c, setP_n, setP_c, setK_on, setK_tn, setK_dk, setK_ob, kids_on, kids_tn, kids_dk, kids_ob,
    w_store, kStore_ok, qv_c, qv_s, qv_p, w_tb, kTb_ok, w_and, kAnd_t, kAnd_f, w_or, kOr_t, kOr_f, kBoth_ok, w_not, kNot_ok, w_yes, w_for, w_sList, w_sTup, kTs_d, w_sStr, kStrS_ok, w_sRng, kRng_ok, w_sZip, kBody_nx, kBody_ct, kBody_bk, kBody_rt, w_comp, kCE_d, kCE_ol, wipeR_n, wipeR_c, kCT_t, kCT_f,
    hviews, hview_t, hview_s, hview_p, vwd, vwol, vwdt, List.getElem?_cons_zero, List.getElem?_cons_succ, List.set_cons_zero, List.set_cons_succ, Option.bind_some, Option.map_some, Option.bind_none, Option.map_none, gN_ok, gT_ok, gAll, parts_t, parts_row, List.map_cons, List.map_nil, Bool.not_true, Bool.not_false, hdRs, List.all_cons, List.all_nil, Bool.and_true, Op.quiet,
    eqK_int, neK_int, eqK_row, neK_row, inK_row, notInK_row, eqK_rows, neK_rows, ltK_int, leK_int, gtK_int, geK_int, minK_int, maxK_int, minK_int3, lenK_map, listK_l, addK_int, subK_int, negK_int, intK_bool, intK_int, isNotK_b, isK_b, cutD_map, kMutI_l, isi2_i, isi2_b, isi2_s, isi2_n, isi2_l, isi2_t, isi1_l, isi1_t, isi0_l, isi0_t, isN_i, isN_b, isN_s, isN_n, isi_2i, isi_2b, isi_2s, isi_3i, isi_3b, isi_4i, eqK_bool, neK_bool, beq_self_eq_true]
  | rw [rng1_i (by omega)] | rw [rng2_i (by omega) (by omega)] | rw [modK_ok (by omega)] | rw [fdivK_ok (by omega)] | rw [mulK_l (by decide)] | rw [mulK_r (by decide)]
  | rw [appendM_map (by first | omega | (simp; omega))] | rw [appendM_d (by first | omega | (simp; omega))] | rw [addK_map _ _ _ (by first | omega | (simp; omega))] | rw [kRep1_ok (by first | omega | (simp; omega))]))
/-! ### lists of ints -/
theorem eqv_int_row (a : Int) (d : PyData) : True := trivial
theorem eqv_ints (as bs : List Int) : PyData.eqv (.list (as.map .int)) (.list (bs.map .int)) = decide (as = bs) := by
  have h := eqv_plain (x := .list (as.map .int)) (y := .list (bs.map .int)) (by simp [plainD, plain_ints]) (by simp [plainD, plain_ints])
  have inj : (PyData.list (as.map .int) = .list (bs.map .int)) ↔ as = bs := by
    constructor
    · intro e
      injection e with e
      have : rowD as = rowD bs := by unfold rowD; rw [e]
      exact rowD_inj.mp this
    · intro e; rw [e]
  rw [inj] at h
  by_cases e : as = bs
  · rw [h.mpr e, decide_eq_true e]
  · rw [decide_eq_false e]
    exact Bool.eq_false_iff.mpr fun z => e (h.mp z)
theorem eqK_ints (as bs : List Int) : eqK [.list (as.map .int), .list (bs.map .int)] = some (dB (decide (as = bs))) := by
  have : eqK [.list (as.map .int), .list (bs.map .int)] = if (notDict (.list (as.map .int)) && notDict (.list (bs.map .int)) && SeqAt.shaped (.list (as.map .int)) && SeqAt.shaped (.list (bs.map .int))) = true then some (.d (.bool (PyData.eqv (.list (as.map .int)) (.list (bs.map .int))))) else none := (rfl)
  rw [this, if_pos (by rw [shaped_ints, shaped_ints]; rfl), eqv_ints]
theorem neK_ints (as bs : List Int) : neK [.list (as.map .int), .list (bs.map .int)] = some (dB (!decide (as = bs))) := by
  have : neK [.list (as.map .int), .list (bs.map .int)] = if (notDict (.list (as.map .int)) && notDict (.list (bs.map .int)) && SeqAt.shaped (.list (as.map .int)) && SeqAt.shaped (.list (bs.map .int))) = true then some (.d (.bool (!PyData.eqv (.list (as.map .int)) (.list (bs.map .int))))) else none := (rfl)
  rw [this, if_pos (by rw [shaped_ints, shaped_ints]; rfl), eqv_ints]
theorem eqK_ints0 (as : List Int) : eqK [.list (as.map .int), .list []] = some (dB (decide (as = []))) := eqK_ints as []
theorem neK_ints0 (as : List Int) : neK [.list (as.map .int), .list []] = some (dB (!decide (as = []))) := neK_ints as []
theorem inK_int (a : Int) (ns : List Int) : inK [.int a, .list (ns.map .int)] = some (dB (decide (a ∈ ns))) := by
  have : inB (.int a) (.list (ns.map .int)) = some (decide (a ∈ ns)) := by
    unfold inB
    simp only
    rw [if_pos (by rw [shaped_ints]; rfl)]
    congr 1
    rw [List.any_map]
    induction ns with
    | nil => simp
    | cons r rs ih =>
      rw [List.any_cons, ih]
      have : (PyData.eqv (PyData.int r) (.int a)) = decide (r = a) := by simp [PyData.eqv]; rfl
      simp only [Function.comp, this]
      by_cases e : r = a
      · subst e; simp
      · have e' : ¬ a = r := fun z => e z.symm
        simp [e, e']
  unfold inK; simp only [this]; rfl
theorem ixK_map {α : Type} {f : α → PyData} {xs : List α} {k : Nat} {x : α} (h : xs[k]? = some x) : ixK [.list (xs.map f), .int (k : Int)] = some (.d (f x)) :=
  ix_nat (by rw [List.getElem?_map, h]; rfl)
theorem ixK_map0 {α : Type} {f : α → PyData} {xs : List α} {i : Int} {x : α} (h0 : 0 ≤ i) (h : xs[i.toNat]? = some x) : ixK [.list (xs.map f), .int i] = some (.d (f x)) := by
  have := ixK_map (f := f) h
  rwa [Int.toNat_of_nonneg h0] at this
theorem sumK_ints (ns : List Int) : sumK [.list (ns.map .int)] = some (dI ns.sum) := by
  show (intsOf (ns.map .int)).map (fun ns => R.d (.int ns.sum)) = _
  rw [intsOf_map]; rfl
theorem setSortIK_ints {ns : List Int} (h : ns.length < 64) : setSortIK [.list (ns.map .int)] = some (.ol ((iset ns).map .int)) := by
  show ((intsOf (ns.map .int)).bind fun ns => if ns.length < 64 then some (R.ol ((iset ns).map .int)) else none) = _
  rw [intsOf_map, Option.bind_some, if_pos h]
theorem alikeAll_ints (ns : List Int) : PySem.W.AlikeAll (ns.map .int) := by
  refine ⟨fun x hx y hy => ?_, fun x hx => ?_⟩
  · obtain ⟨a, _, rfl⟩ := List.mem_map.mp hx
    obtain ⟨b, _, rfl⟩ := List.mem_map.mp hy
    simp [PySem.W.alike]
  · obtain ⟨a, _, rfl⟩ := List.mem_map.mp hx
    intro z; cases z
def minDef (ns : List Int) (k : Int) : Int := match ns with
  | [] => k
  | a :: l => l.foldl min a
theorem minDefK_ints (ns : List Int) (k : Int) : minDefK [.list (ns.map .int), .int k] = some (dI (minDef ns k)) := by
  have h : minDefK [.list (ns.map .int), .int k] = if PySem.W.AlikeAll (ns.map PyData.int) ∧ PyData.depthAll (ns.map PyData.int) ≤ 30 then some (.d (if ns.map PyData.int = [] then .int k else minOf (ns.map .int))) else none := (rfl)
  rw [h, if_pos ⟨alikeAll_ints ns, by rw [PySem.W.depth_ints]; omega⟩]
  cases ns with
  | nil => rfl
  | cons a l =>
    rw [if_neg (by simp)]
    show some (R.d (PySem.W.minD (.int a) (l.map .int))) = _
    rw [PySem.W.minD_ints]; rfl
theorem shaped_str {a : Str} (h : PyData.strOk a = true) : SeqAt.shaped (.str a) = true := by
  simp [SeqAt.shaped, PyData.canLay0, PyData.depth, h]
theorem eqK_str {a c : Str} (ha : PyData.strOk a = true) (hc : PyData.strOk c = true) : eqK [.str a, .str c] = some (dB (decide (a = c))) := by
  have e : eqK [.str a, .str c] = some (.d (.bool (PyData.eqv (.str a) (.str c)))) := if_pos (by rw [shaped_str ha, shaped_str hc]; rfl)
  have h := eqv_plain (x := .str a) (y := .str c) rfl rfl
  rw [e]
  by_cases q : a = c
  · subst q; rw [h.mpr rfl]; simp
  · have : PyData.eqv (.str a) (.str c) = false := Bool.eq_false_iff.mpr fun z => q (by have := h.mp z; injection this)
    rw [this, decide_eq_false q]
theorem neK_str {a c : Str} (ha : PyData.strOk a = true) (hc : PyData.strOk c = true) : neK [.str a, .str c] = some (dB (!decide (a = c))) := by
  have e : neK [.str a, .str c] = some (.d (.bool (!PyData.eqv (.str a) (.str c)))) := if_pos (by rw [shaped_str ha, shaped_str hc]; rfl)
  have h := eqv_plain (x := .str a) (y := .str c) rfl rfl
  rw [e]
  by_cases q : a = c
  · subst q; rw [h.mpr rfl]; simp
  · have : PyData.eqv (.str a) (.str c) = false := Bool.eq_false_iff.mpr fun z => q (by have := h.mp z; injection this)
    rw [this, decide_eq_false q]
/-! ### the same as itself -/
mutual
def likeD : PyData → Bool
  | .none => true
  | .bool _ => true
  | .int _ => true
  | .str z => PyData.strOk z
  | .list ds => decide (ds.length ≤ 10000) && likeDs ds
  | .tuple ds => decide (ds.length ≤ 10000) && likeDs ds
  | .dict _ => false
def likeDs : List PyData → Bool
  | [] => true
  | d :: ds => likeD d && likeDs ds
end
theorem likeDs_at : ∀ {ds : List PyData}, likeDs ds = true → ∀ {k : Nat} {d : PyData}, ds[k]? = some d → likeD d = true
  | [], _, _, _, e => by simp at e
  | x :: ds, h, 0, d, e => by
    simp [likeDs] at h; simp at e; subst e; exact h.1
  | x :: ds, h, k + 1, d, e => by
    simp [likeDs] at h; exact likeDs_at h.2 (by simpa using e)
theorem depth_at : ∀ {ds : List PyData} {k : Nat} {d : PyData}, ds[k]? = some d → d.depth ≤ PyData.depthAll ds
  | [], _, _, e => by simp at e
  | x :: ds, 0, d, e => by
    simp at e; subst e; simp only [PyData.depthAll]; omega
  | x :: ds, k + 1, d, e => by
    have := depth_at (ds := ds) (k := k) (d := d) (by simpa using e)
    simp only [PyData.depthAll]; omega
theorem ixK_tup {ds : List PyData} {k : Nat} {d : PyData} (e : ds[k]? = some d) : ixK [.tuple ds, .int (k : Int)] = some (.d d) := by
  show (atI ds (k : Int)).map R.d = _
  rw [atI_nat ds k (List.getElem?_eq_some_iff.mp e).1, e]; rfl
def AlikeN (n : Nat) : Prop := ∀ d : PyData, likeD d = true → d.depth < n → g__law_alike n [.d d, .d d] = .ok (dB true) [.d d, .d d]
theorem alike_seq {n : Nat} (ih : AlikeN n) (ds : List PyData) (hl : likeDs ds = true) (hs : ds.length ≤ 10000) (hdp : PyData.depthAll ds < n) (mk : List PyData → PyData) (hix : ∀ k : Nat, ∀ d, ds[k]? = some d → ixK [mk ds, .int (k : Int)] = some (.d d)) {P : EPost} {B : List R} (eB : B = [.d (mk ds), .d (mk ds), .junk]) (hP : P (.ol []) B) : kComp [2] (gN 2) (fNot (cTb (cPeek (g__law_alike n) [.e (cFz (cN ixK [.s 0, .s 2])), .e (cFz (cN ixK [.s 1, .s 2]))]))) (cVar 2) P (rngD 0 (ds.length : Int).toNat) B := by
  subst eB
  rw [map_int_range]
  have nil : ∀ l : List Int, l.filter (fun _ => false) = [] := fun l => by induction l <;> simp_all
  refine kComp_p (enc := .int) (dec := .int) (fun _ => false) id rfl (by rw [List.length_map, List.length_range]; omega) rfl rfl (fun a ha => ?_) (by rw [nil]; exact hP)
  obtain ⟨k, hk, rfl⟩ := List.mem_map.mp ha
  have hk' : k < ds.length := by simpa using hk
  have e1 := hix k ds[k] (List.getElem?_eq_getElem hk')
  have e2 := ih ds[k] (likeDs_at hl (List.getElem?_eq_getElem hk')) (by have := depth_at (ds := ds) (List.getElem?_eq_getElem hk'); omega)
  rw [Int.zero_add]
  bv_omega
  rw [e1]
  bv_omega
  refine Wf.of e2 ?_
  bv_omega
  exact kPT_ok rfl rfl fun z => by cases z
end TL
set_option linter.all false
set_option maxRecDepth 100000
set_option maxHeartbeats 4000000
namespace TL
open PySem PySem.Spec PyProof.Rows L2 TP
variable [TabsOf]
local macro_rules | `(tactic| bv_omega) => `(tactic| repeat (first
  | simp only [w_seq, kSeq_nx, kSeq_rt, kSeq_ct, kSeq_bk, w_nx, w_bk, w_ct, w_ret, kRet_ok, w_retN, w_drop, kDrop_ok, w_set, kSet_ok, kO_some, w_asg, kAsg_ok, w_ite, kIte_t, kIte_f, w_raise, w_par2, kPar2_ok, w_par3, kPar3_ok,
    w_run, kRun_rt, kRun_nx, kRunX_ok, List.take_succ_cons, List.take_zero, List.length_cons, List.length_nil, Nat.sub_self, List.replicate_succ, List.replicate_zero, List.cons_append, List.nil_append,
    wo_nil, wo_e, kOe_ok, wo_c, wo_s, wo_p, kOt_ok, kOs_ok, kOp_ok, kSl_d, kSl_ol, kSl_on, kSl_tn, kSl_dt, kSl_dk, kSl_ob, w_c, w_var, kVar_d, kVar_ol, w_mv, kMv_d, kMv_ol, kMv_on, kMv_tn, kMv_dt, kMv_dk, kMv_ob, w_get, kGet_d, w_n, kN_ok,
    w_andE, kAndE_t, kAndE_f, w_orE, kOrE_t, kOrE_f, kBothE_ok, w_notE, kNotE_ok, w_if, kIf_t, kIf_f, kInt_ok, w_chain, kCh1_ok, kCh2_c, kCh2_v, kChV_i, w_tup, kTup_ok, w_lst, kLst_ok, mkT1d, mkT2d, mkT3d, mkT5d, mkL0, mkL1, mkL2, mkL3, mkL4, mkL5, mkL6, row3, Nat.reduceLeDiff, true_and,
    w_fz, kFz_ok, toD_d, toD_ol, w_call, kCall_ok, kPut_ok, kPutX_ok, takeHs_s, takeHs_t, takeHs_n, kTk_d, kTk_ol, kTk_on, kTk_tn, kTk_dt, kTk_dk, kTk_ob, putHs_s, putHs_t, putHs_n, w_peek, kPeek_ok, kSc_i, kSc_b, lookD_n, lookD_t, lookD_s,
    w_slice, kSl0_ok, kSl1_ok, w_part0, w_part1, kPart_ok, kLs_d, kLs_ol, w_revD, kRev_ok, w_rep, kRep_ok, w_dict0, w_mut, kMut_ok, hdA_d, hdArgs_n, hdArgs_t, hdArgs_s, w_mutT, kMT1_ok, w_meth, kOb_ok, getP_n, getP_c, setP_n, setP_c, setK_on, setK_tn, setK_dk, setK_ob, kids_on, kids_tn, kids_dk, kids_ob,
    w_store, kStore_ok, qv_c, qv_s, qv_p, w_tb, kTb_ok, w_and, kAnd_t, kAnd_f, w_or, kOr_t, kOr_f, kBoth_ok, w_not, kNot_ok, w_yes, w_for, w_sList, w_sTup, kTs_d, w_sStr, kStrS_ok, w_sRng, kRng_ok, w_sZip, kBody_nx, kBody_ct, kBody_bk, kBody_rt, w_comp, kCE_d, kCE_ol, wipeR_n, wipeR_c, kCT_t, kCT_f,
    hviews, hview_t, hview_s, hview_p, vwd, vwol, vwdt, List.getElem?_cons_zero, List.getElem?_cons_succ, List.set_cons_zero, List.set_cons_succ, Option.bind_some, Option.map_some, Option.bind_none, Option.map_none, gN_ok, gT_ok, gAll, parts_t, parts_row, List.map_cons, List.map_nil, Bool.not_true, Bool.not_false, hdRs, List.all_cons, List.all_nil, Bool.and_true, Op.quiet,
    eqK_int, neK_int, eqK_row, neK_row, inK_row, notInK_row, eqK_rows, neK_rows, ltK_int, leK_int, gtK_int, geK_int, minK_int, maxK_int, minK_int3, lenK_map, listK_l, addK_int, subK_int, negK_int, intK_bool, intK_int, isNotK_b, isK_b, cutD_map, kMutI_l, isi2_i, isi2_b, isi2_s, isi2_n, isi2_l, isi2_t, isi1_l, isi1_t, isi0_l, isi0_t, isN_i, isN_b, isN_s, isN_n, isi_2i, isi_2b, isi_2s, isi_3i, isi_3b, isi_4i, eqK_bool, neK_bool, beq_self_eq_true]
  | rw [rng1_i (by omega)] | rw [rng2_i (by omega) (by omega)] | rw [modK_ok (by omega)] | rw [fdivK_ok (by omega)] | rw [mulK_l (by decide)] | rw [mulK_r (by decide)]
  | rw [appendM_map (by first | omega | (simp; omega))] | rw [appendM_d (by first | omega | (simp; omega))] | rw [addK_map _ _ _ (by first | omega | (simp; omega))] | rw [kRep1_ok (by first | omega | (simp; omega))]))
theorem neK_self (a : Int) : neK [.int a, .int a] = some (dB false) := by
  rw [neK_int]; simp
theorem alike_list {n : Nat} (ih : AlikeN n) (ds : List PyData) (hl : likeDs ds = true) (hs : ds.length ≤ 10000) (hdp : PyData.depthAll ds < n) : g__law_alike (n + 1) [.d (.list ds), .d (.list ds)] = .ok (dB true) [.d (.list ds), .d (.list ds)] := by
  refine Wf.get ?_
  show Wf (runG (p__law_alike (g__law_alike n)) _ _ _) _ _
  bv_omega
  unfold p__law_alike
  obtain ⟨m, hm, hb⟩ : ∃ m : Int, lenK [.list ds] = some (.d (.int m)) ∧ m = ds.length := ⟨_, lenK_l, rfl⟩
  have hb2 : -1000000 ≤ m ∧ m < 1000000 := by omega
  bv_omega
  rw [hm]
  simp only [kO_some, Option.bind_some, Option.map_some, vwd, neK_self]
  bv_omega
  rw [hm]
  bv_omega
  subst hb
  refine alike_seq ih ds hl hs hdp PyData.list (fun k d e => ix_nat e) rfl ?_
  bv_omega
  rw [show eqK [.list [], .list []] = some (dB (decide (([] : List Int) = []))) from eqK_ints0 []]
  bv_omega
  exact ⟨rfl, trivial⟩
theorem alike_tup {n : Nat} (ih : AlikeN n) (ds : List PyData) (hl : likeDs ds = true) (hs : ds.length ≤ 10000) (hdp : PyData.depthAll ds < n) : g__law_alike (n + 1) [.d (.tuple ds), .d (.tuple ds)] = .ok (dB true) [.d (.tuple ds), .d (.tuple ds)] := by
  refine Wf.get ?_
  show Wf (runG (p__law_alike (g__law_alike n)) _ _ _) _ _
  bv_omega
  unfold p__law_alike
  obtain ⟨m, hm, hb⟩ : ∃ m : Int, lenK [.tuple ds] = some (.d (.int m)) ∧ m = ds.length := ⟨_, lenK_t, rfl⟩
  have hb2 : -1000000 ≤ m ∧ m < 1000000 := by omega
  bv_omega
  rw [hm]
  simp only [kO_some, Option.bind_some, Option.map_some, vwd, neK_self]
  bv_omega
  rw [hm]
  bv_omega
  subst hb
  refine alike_seq ih ds hl hs hdp PyData.tuple (fun k d e => ixK_tup e) rfl ?_
  bv_omega
  rw [show eqK [.list [], .list []] = some (dB (decide (([] : List Int) = []))) from eqK_ints0 []]
  bv_omega
  exact ⟨rfl, trivial⟩
theorem alike_flat (n : Nat) (d : PyData) (h : match d with | .none => true | .bool _ => true | .int _ => true | .str z => PyData.strOk z | _ => false) : g__law_alike (n + 1) [.d d, .d d] = .ok (dB true) [.d d, .d d] := by
  refine Wf.get ?_
  show Wf (runG (p__law_alike (g__law_alike n)) _ _ _) _ _
  bv_omega
  unfold p__law_alike
  cases d with
  | none => bv_omega
  | bool b => bv_omega
  | int i => bv_omega
  | str z => bv_omega; simp only [eqK_str h h]; bv_omega; simp
  | list _ => cases h
  | tuple _ => cases h
  | dict _ => cases h
theorem alike_self (n : Nat) : AlikeN n := by
  induction n with
  | zero => intro d _ h; omega
  | succ n ih =>
    intro d hd h
    cases d with
    | none => exact alike_flat n _ rfl
    | bool b => exact alike_flat n _ rfl
    | int i => exact alike_flat n _ rfl
    | str z => exact alike_flat n _ (by rw [likeD] at hd; exact hd)
    | list ds =>
      simp only [likeD, Bool.and_eq_true, decide_eq_true_eq] at hd
      simp only [PyData.depth] at h
      exact alike_list ih ds hd.2 hd.1 (by omega)
    | tuple ds =>
      simp only [likeD, Bool.and_eq_true, decide_eq_true_eq] at hd
      simp only [PyData.depth] at h
      exact alike_tup ih ds hd.2 hd.1 (by omega)
    | dict _ => rw [likeD] at hd; cases hd
end TL
set_option linter.all false
set_option maxRecDepth 100000
set_option maxHeartbeats 4000000
namespace TL
open PySem PySem.Spec PyProof.Rows L2 TP
variable [TabsOf]
local macro_rules | `(tactic| bv_omega) => `(tactic| repeat (first
  | simp only [w_seq, kSeq_nx, kSeq_rt, kSeq_ct, kSeq_bk, w_nx, w_bk, w_ct, w_ret, kRet_ok, w_retN, w_drop, kDrop_ok, w_set, kSet_ok, kO_some, w_asg, kAsg_ok, w_ite, kIte_t, kIte_f, w_raise, w_par2, kPar2_ok, w_par3, kPar3_ok,
    w_run, kRun_rt, kRun_nx, kRunX_ok, List.take_succ_cons, List.take_zero, List.length_cons, List.length_nil, Nat.sub_self, List.replicate_succ, List.replicate_zero, List.cons_append, List.nil_append,
    wo_nil, wo_e, kOe_ok, wo_c, wo_s, wo_p, kOt_ok, kOs_ok, kOp_ok, kSl_d, kSl_ol, kSl_on, kSl_tn, kSl_dt, kSl_dk, kSl_ob, w_c, w_var, kVar_d, kVar_ol, w_mv, kMv_d, kMv_ol, kMv_on, kMv_tn, kMv_dt, kMv_dk, kMv_ob, w_get, kGet_d, w_n, kN_ok,
    w_andE, kAndE_t, kAndE_f, w_orE, kOrE_t, kOrE_f, kBothE_ok, w_notE, kNotE_ok, w_if, kIf_t, kIf_f, kInt_ok, w_chain, kCh1_ok, kCh2_c, kCh2_v, kChV_i, w_tup, kTup_ok, w_lst, kLst_ok, mkT1d, mkT2d, mkT3d, mkT5d, mkL0, mkL1, mkL2, mkL3, mkL4, mkL5, mkL6, row3, Nat.reduceLeDiff, true_and,
    w_fz, kFz_ok, toD_d, toD_ol, w_call, kCall_ok, kPut_ok, kPutX_ok, takeHs_s, takeHs_t, takeHs_n, kTk_d, kTk_ol, kTk_on, kTk_tn, kTk_dt, kTk_dk, kTk_ob, putHs_s, putHs_t, putHs_n, w_peek, kPeek_ok, kSc_i, kSc_b, lookD_n, lookD_t, lookD_s,
    w_slice, kSl0_ok, kSl1_ok, w_part0, w_part1, kPart_ok, kLs_d, kLs_ol, w_revD, kRev_ok, w_rep, kRep_ok, w_dict0, w_mut, kMut_ok, hdA_d, hdArgs_n, hdArgs_t, hdArgs_s, w_mutT, kMT1_ok, w_meth, kOb_ok, getP_n, getP_c, setP_n, setP_c, setK_on, setK_tn, setK_dk, setK_ob, kids_on, kids_tn, kids_dk, kids_ob,
    w_store, kStore_ok, qv_c, qv_s, qv_p, w_tb, kTb_ok, w_and, kAnd_t, kAnd_f, w_or, kOr_t, kOr_f, kBoth_ok, w_not, kNot_ok, w_yes, w_for, w_sList, w_sTup, kTs_d, w_sStr, kStrS_ok, w_sRng, kRng_ok, w_sZip, kBody_nx, kBody_ct, kBody_bk, kBody_rt, w_comp, kCE_d, kCE_ol, wipeR_n, wipeR_c, kCT_t, kCT_f,
    hviews, hview_t, hview_s, hview_p, vwd, vwol, vwdt, List.getElem?_cons_zero, List.getElem?_cons_succ, List.set_cons_zero, List.set_cons_succ, Option.bind_some, Option.map_some, Option.bind_none, Option.map_none, gN_ok, gT_ok, gAll, parts_t, parts_row, List.map_cons, List.map_nil, Bool.not_true, Bool.not_false, hdRs, List.all_cons, List.all_nil, Bool.and_true, Op.quiet,
    eqK_int, neK_int, eqK_row, neK_row, inK_row, notInK_row, eqK_rows, neK_rows, ltK_int, leK_int, gtK_int, geK_int, minK_int, maxK_int, minK_int3, lenK_map, listK_l, addK_int, subK_int, negK_int, intK_bool, intK_int, isNotK_b, isK_b, cutD_map, kMutI_l, isi2_i, isi2_b, isi2_s, isi2_n, isi2_l, isi2_t, isi1_l, isi1_t, isi0_l, isi0_t, isN_i, isN_b, isN_s, isN_n, isi_2i, isi_2b, isi_2s, isi_3i, isi_3b, isi_4i, eqK_bool, neK_bool, beq_self_eq_true]
  | rw [rng1_i (by omega)] | rw [rng2_i (by omega) (by omega)] | rw [modK_ok (by omega)] | rw [fdivK_ok (by omega)] | rw [mulK_l (by decide)] | rw [mulK_r (by decide)]
  | rw [appendM_map (by first | omega | (simp; omega))] | rw [appendM_d (by first | omega | (simp; omega))] | rw [addK_map _ _ _ (by first | omega | (simp; omega))] | rw [kRep1_ok (by first | omega | (simp; omega))]))
/-! ### what a def refuses, asked by _law_kind -/
section
variable {P : EPost} {X : XPost} {ρ ρ' : List R} {f : EF} {ns : List Nat}
def kKd (P : EPost) : EPost := fun _ ρ' => P (.d (.str "")) ρ'
def kKx (ns : List Nat) (ρ : List R) (P : EPost) : XPost := fun x ρ' => x.row = none ∧ x.n ∈ ns ∧ kJ ρ ρ' = true ∧ P (.d (.str (kWord x.n))) ρ'
theorem w_kind : Wt (cKind ns f ρ) P X = Wt (f ρ) (kKd P) (kKx ns ρ P) := by
  unfold cKind
  cases f ρ with
  | ok r ρ' => rfl
  | ex x ρ' =>
    show Wt (if x.row = none ∧ x.n ∈ ns ∧ kJ ρ ρ' = true then .ok (.d (.str (kWord x.n))) ρ' else .no) P X = (x.row = none ∧ x.n ∈ ns ∧ kJ ρ ρ' = true ∧ P (.d (.str (kWord x.n))) ρ')
    split
    · rename_i h; exact propext ⟨fun z => ⟨h.1, h.2.1, h.2.2, z⟩, fun z => z.2.2.2⟩
    · rename_i h; exact propext ⟨fun z => z.elim, fun z => h ⟨z.1, z.2.1, z.2.2.1⟩⟩
  | no => rfl
theorem kKd_ok {r : R} : kKd P r ρ = P (.d (.str "")) ρ := (rfl)
theorem kKx_ok {n : Nat} (hn : n ∈ ns) (hj : kJ ρ ρ' = true) (h : P (.d (.str (kWord n))) ρ') : kKx ns ρ P ⟨n, none⟩ ρ' := ⟨rfl, hn, hj, h⟩
theorem kJ_self : ∀ ρ : List R, kJ ρ ρ = true
  | [] => rfl
  | r :: ρ => by
    simp only [kJ, kJ_self ρ, Bool.and_true, Bool.or_eq_true, Bool.not_eq_true']
    cases isJ r <;> simp
theorem kJ_cons {r q : R} (h : (isJ q || !isJ r) = true) (t : kJ ρ ρ' = true) : kJ (r :: ρ) (q :: ρ') = true := by
  simp only [kJ, h, t, Bool.and_self]
theorem isJ_or {r : R} : (isJ r || !isJ r) = true := by cases isJ r <;> rfl
theorem alike_isp {a b : Int} {n : Nat} (k : P (dB (decide (a = b))) [dI a, dI b]) : Wf (g__law_alike (n + 1) [dI a, dI b]) P X := by
  refine Wf.of (show g__law_alike (n + 1) [dI a, dI b] = .ok (dB (decide (a = b))) [dI a, dI b] from ?_) k
  refine Wf.get ?_
  show Wf (runG (p__law_alike (g__law_alike n)) _ _ _) _ _
  bv_omega
  unfold p__law_alike
  bv_omega
  simp only [and_true]
  refine congrArg (fun b => R.d (.bool b)) ?_
  by_cases e : a = b
  · subst e; simp
  · simp [e]
theorem alike_sp {d : PyData} {n : Nat} (h1 : likeD d = true) (h2 : d.depth < n) (k : P (dB true) [.d d, .d d]) : Wf (g__law_alike n [.d d, .d d]) P X := Wf.of (alike_self n d h1 h2) k
end
theorem strOk_lit : PyData.strOk "BadMoments" = true := by decide +kernel
end TL
set_option linter.all false
set_option maxRecDepth 100000
set_option maxHeartbeats 4000000
namespace TL
open PySem PySem.Spec PyProof.Rows L2 TP
variable [TabsOf]
local macro_rules | `(tactic| bv_omega) => `(tactic| repeat (first
  | simp only [w_seq, kSeq_nx, kSeq_rt, kSeq_ct, kSeq_bk, w_nx, w_bk, w_ct, w_ret, kRet_ok, w_retN, w_drop, kDrop_ok, w_set, kSet_ok, kO_some, w_asg, kAsg_ok, w_ite, kIte_t, kIte_f, w_raise, w_par2, kPar2_ok, w_par3, kPar3_ok,
    w_run, kRun_rt, kRun_nx, kRunX_ok, List.take_succ_cons, List.take_zero, List.length_cons, List.length_nil, Nat.sub_self, List.replicate_succ, List.replicate_zero, List.cons_append, List.nil_append,
    wo_nil, wo_e, kOe_ok, wo_c, wo_s, wo_p, kOt_ok, kOs_ok, kOp_ok, kSl_d, kSl_ol, kSl_on, kSl_tn, kSl_dt, kSl_dk, kSl_ob, w_c, w_var, kVar_d, kVar_ol, w_mv, kMv_d, kMv_ol, kMv_on, kMv_tn, kMv_dt, kMv_dk, kMv_ob, w_get, kGet_d, w_n, kN_ok,
    w_andE, kAndE_t, kAndE_f, w_orE, kOrE_t, kOrE_f, kBothE_ok, w_notE, kNotE_ok, w_if, kIf_t, kIf_f, kInt_ok, w_chain, kCh1_ok, kCh2_c, kCh2_v, kChV_i, w_tup, kTup_ok, w_lst, kLst_ok, mkT1d, mkT2d, mkT3d, mkT5d, mkL0, mkL1, mkL2, mkL3, mkL4, mkL5, mkL6, row3, Nat.reduceLeDiff, true_and,
    w_fz, kFz_ok, toD_d, toD_ol, w_call, kCall_ok, kPut_ok, kPutX_ok, takeHs_s, takeHs_t, takeHs_n, kTk_d, kTk_ol, kTk_on, kTk_tn, kTk_dt, kTk_dk, kTk_ob, putHs_s, putHs_t, putHs_n, w_peek, kPeek_ok, kSc_i, kSc_b, lookD_n, lookD_t, lookD_s,
    w_slice, kSl0_ok, kSl1_ok, w_part0, w_part1, kPart_ok, kLs_d, kLs_ol, w_revD, kRev_ok, w_rep, kRep_ok, w_dict0, w_mut, kMut_ok, hdA_d, hdArgs_n, hdArgs_t, hdArgs_s, w_mutT, kMT1_ok, w_meth, kOb_ok, getP_n, getP_c, setP_n, setP_c, setK_on, setK_tn, setK_dk, setK_ob, kids_on, kids_tn, kids_dk, kids_ob,
    w_store, kStore_ok, qv_c, qv_s, qv_p, w_tb, kTb_ok, w_and, kAnd_t, kAnd_f, w_or, kOr_t, kOr_f, kBoth_ok, w_not, kNot_ok, w_yes, w_for, w_sList, w_sTup, kTs_d, w_sStr, kStrS_ok, w_sRng, kRng_ok, w_sZip, kBody_nx, kBody_ct, kBody_bk, kBody_rt, w_comp, kCE_d, kCE_ol, wipeR_n, wipeR_c, kCT_t, kCT_f,
    hviews, hview_t, hview_s, hview_p, vwd, vwol, vwdt, List.getElem?_cons_zero, List.getElem?_cons_succ, List.set_cons_zero, List.set_cons_succ, Option.bind_some, Option.map_some, Option.bind_none, Option.map_none, gN_ok, gT_ok, gAll, parts_t, parts_row, List.map_cons, List.map_nil, Bool.not_true, Bool.not_false, hdRs, List.all_cons, List.all_nil, Bool.and_true, Op.quiet,
    eqK_int, neK_int, eqK_row, neK_row, inK_row, notInK_row, eqK_rows, neK_rows, ltK_int, leK_int, gtK_int, geK_int, minK_int, maxK_int, minK_int3, lenK_map, listK_l, addK_int, subK_int, negK_int, intK_bool, intK_int, isNotK_b, isK_b, cutD_map, kMutI_l, isi2_i, isi2_b, isi2_s, isi2_n, isi2_l, isi2_t, isi1_l, isi1_t, isi0_l, isi0_t, isN_i, isN_b, isN_s, isN_n, isi_2i, isi_2b, isi_2s, isi_3i, isi_3b, isi_4i, eqK_bool, neK_bool, beq_self_eq_true]
  | rw [rng1_i (by omega)] | rw [rng2_i (by omega) (by omega)] | rw [modK_ok (by omega)] | rw [fdivK_ok (by omega)] | rw [mulK_l (by decide)] | rw [mulK_r (by decide)]
  | rw [appendM_map (by first | omega | (simp; omega))] | rw [appendM_d (by first | omega | (simp; omega))] | rw [addK_map _ _ _ (by first | omega | (simp; omega))] | rw [kRep1_ok (by first | omega | (simp; omega))]))
/-! ### what is refused: levels, squares, views; elders -/
section
variable {P : EPost} {X : XPost}
theorem need_levels_x {L : Int} (h : ¬ (1 ≤ L ∧ L ≤ 6)) (k : X ⟨1, none⟩ [dI L]) : Wf (g_need_levels [dI L]) P X := by
  unfold g_need_levels
  bv_omega
  unfold p_need_levels
  bv_omega
  rw [kCh2_p (h := cC c_MOST_LEVELS) (l := 6) rfl]
  bv_omega
  rw [show (!(decide (1 ≤ L) && decide (L ≤ 6))) = true by simp; omega]
  bv_omega
  exact k
theorem need_square_sp {L : Int} {r : List Int} (hL : L ≤ 6) (h3 : r.length = 3) (k1 : isSq L r = true → P (.d .none) [dI L, .d (rowD r)]) (k2 : isSq L r = false → X ⟨2, none⟩ [dI L, .d (rowD r)]) : Wf (g_need_square [dI L, .d (rowD r)]) P X := by
  obtain ⟨l, x, y, rfl⟩ := three h3
  unfold g_need_square
  bv_omega
  unfold p_need_square
  bv_omega
  refine Wf.of (is_square_ok L l x y hL) ?_
  bv_omega
  cases e : isSq L [l, x, y] with
  | true =>
    rw [Bool.not_true]
    bv_omega
    exact k1 e
  | false =>
    rw [Bool.not_false]
    bv_omega
    exact k2 e
def eldI (l x y : Int) (n : Nat) : List (List Int) := (List.range n).map fun (j : Nat) => [l - 1 - (j : Int), x / 2 ^ (j + 1), y / 2 ^ (j + 1)]
theorem eldI_succ (l x y : Int) (n : Nat) : eldI l x y (n + 1) = eldI l x y n ++ [[l - 1 - (n : Int), x / 2 ^ (n + 1), y / 2 ^ (n + 1)]] := by
  unfold eldI; rw [List.range_succ, List.map_append]; rfl
theorem half_pow (x : Int) (n : Nat) : x / 2 ^ n / 2 = x / 2 ^ (n + 1) := by
  rw [Int.ediv_ediv_of_nonneg (Int.le_of_lt (Int.pow_pos (by omega))), Int.pow_succ]
theorem elders_of_sp {l x y : Int} (h : 0 ≤ l ∧ l < 60) (k : P (.ol ((eldI l x y l.toNat).map rowD)) [.d (rowD [l, x, y])]) : Wf (g_elders_of [.d (rowD [l, x, y])]) P X := by
  unfold g_elders_of
  bv_omega
  unfold p_elders_of
  bv_omega
  refine while_w (fun m ρ => ∃ j : Nat, (j : Int) ≤ l ∧ m = 64 - j ∧ ρ = [.d (rowD [l, x, y]), .ol ((eldI l x y j).map rowD), dI (l - j), dI (x / 2 ^ j), dI (y / 2 ^ j)]) ⟨0, by omega, rfl, ?_⟩ ?_
  · simp [eldI]
  · rintro m _ ⟨j, hj, rfl, rfl⟩
    refine ⟨63 - j, by omega, ?_⟩
    bv_omega
    by_cases e : 0 < l - (j : Int)
    · rw [decide_eq_true e, if_pos rfl]
      bv_omega
      have lj : (eldI l x y j).length = j := by unfold eldI; rw [List.length_map, List.length_range]
      rw [show ∀ r, appendM (.ol ((eldI l x y j).map rowD)) [.d (rowD r)] = some (.ol ((eldI l x y j ++ [r]).map rowD), .d .none) from fun r => appendM_map (by omega)]
      bv_omega
      refine ⟨j + 1, by omega, by omega, ?_⟩
      rw [half_pow, half_pow, eldI_succ]
      rw [show l - (j : Int) - 1 = l - ((j + 1 : Nat) : Int) by omega, show l - 1 - (j : Int) = l - ((j + 1 : Nat) : Int) by omega]
    · rw [decide_eq_false e, if_neg (by decide)]
      bv_omega
      rw [show l.toNat = j by omega] at k
      exact k
theorem elders_sp {L : Int} {r : List Int} (hL : 1 ≤ L ∧ L ≤ 6) (h3 : r.length = 3) (k1 : isSq L r = true → P (.ol ((eldI (r.getD 0 0) (r.getD 1 0) (r.getD 2 0) (r.getD 0 0).toNat).map rowD)) [dI L, .d (rowD r)]) (k2 : isSq L r = false → X ⟨2, none⟩ [dI L, .d (rowD r)]) : Wf (g_elders [dI L, .d (rowD r)]) P X := by
  unfold g_elders
  bv_omega
  unfold p_elders
  bv_omega
  refine Wf.of (need_levels_ok L hL) ?_
  bv_omega
  refine need_square_sp hL.2 h3 (fun e => ?_) (fun e => ?_)
  · bv_omega
    obtain ⟨l, x, y, rfl⟩ := three h3
    have hl : 0 ≤ l ∧ l < L := by
      unfold isSq at e
      simp only [Bool.and_eq_true, decide_eq_true_eq] at e
      omega
    refine elders_of_sp (by omega) ?_
    bv_omega
    exact k1 e
  · bv_omega
    exact k2 e
theorem elders_x {L : Int} {r : List Int} (hL : ¬ (1 ≤ L ∧ L ≤ 6)) (k : X ⟨1, none⟩ [dI L, .d (rowD r)]) : Wf (g_elders [dI L, .d (rowD r)]) P X := by
  unfold g_elders
  bv_omega
  unfold p_elders
  bv_omega
  refine need_levels_x hL ?_
  bv_omega
  exact k
/-! views -/
def vwB (L : Int) (v : VV) : Bool := decide (0 ≤ v.l ∧ v.l < L ∧ 0 ≤ v.x ∧ 0 ≤ v.y ∧ 1 ≤ v.w ∧ 1 ≤ v.h ∧ v.w * v.h ≤ 16 ∧ v.x + v.w ≤ sideI v.l ∧ v.y + v.h ≤ sideI v.l)
theorem vwB_ok {L : Int} {v : VV} : vwB L v = true ↔ VOk L v := by
  unfold vwB
  rw [decide_eq_true_eq]
  exact ⟨fun ⟨a, b, c, d, e, f, g, h, i⟩ => ⟨a, b, c, d, e, f, g, h, i⟩, fun z => ⟨z.l0, z.l1, z.x0, z.y0, z.w0, z.h0, z.wh, z.xw, z.yh⟩⟩
def smallV (v : VV) : Prop := -2000000 ≤ v.w ∧ v.w ≤ 2000000
theorem is_view_sp {L : Int} {v : VV} (hL : L ≤ 6) (hs : smallV v) (k : P (dB (vwB L v)) [dI L, .d v.d]) : Wf (g_is_view [dI L, .d v.d]) P X := by
  obtain ⟨l, x, y, wd, ht⟩ := v
  have hs : -2000000 ≤ wd ∧ wd ≤ 2000000 := hs
  unfold g_is_view
  bv_omega
  unfold p_is_view
  bv_omega
  by_cases c1 : 0 ≤ l ∧ l < L
  · have h6 : 0 ≤ l ∧ l < 6 := by omega
    rw [show (decide (0 ≤ l) && decide (l < L)) = true by simp [c1]]
    bv_omega
    refine kOr_j ?_
    bv_omega
    refine kOr_j ?_
    bv_omega
    refine kOr_j ?_
    bv_omega
    refine kOr_j ?_
    bv_omega
    rw [mulK_l (by unfold small; simp only [Bool.and_eq_true, decide_eq_true_eq]; omega)]
    bv_omega
    rw [show gtK [.int (wd * ht), c_MOST_WANTED] = some (dB (decide (16 < wd * ht))) from rfl]
    bv_omega
    refine kIte_b (fun e => ?_) (fun e => ?_)
    · bv_omega
      have : vwB L ⟨l, x, y, wd, ht⟩ = false := by
        unfold vwB
        simp only [Bool.or_eq_true, decide_eq_true_eq] at e
        exact decide_eq_false fun z => by simp only at z; omega
      rw [this] at k
      exact k
    · bv_omega
      rw [sides_at h6]
      bv_omega
      refine kAndE_j ?_
      bv_omega
      rw [sides_at h6]
      bv_omega
      have : vwB L ⟨l, x, y, wd, ht⟩ = (decide (x + wd ≤ sideI l) && decide (y + ht ≤ sideI l)) := by
        unfold vwB
        simp only [Bool.or_eq_false_iff, decide_eq_false_iff_not] at e
        rw [← Bool.decide_and, decide_eq_decide]
        simp only
        omega
      rw [this] at k
      exact k
  · rw [show (decide (0 ≤ l) && decide (l < L)) = false by simp; omega]
    bv_omega
    have : vwB L ⟨l, x, y, wd, ht⟩ = false := by
      unfold vwB
      exact decide_eq_false fun z => c1 ⟨z.1, z.2.1⟩
    rw [this] at k
    exact k
theorem law_is_view_sp {L : Int} {v : VV} (hL : L ≤ 6) (hs : smallV v) (k : P (dB (vwB L v)) [dI L, .d v.d]) : Wf (g__law_is_view [dI L, .d v.d]) P X := by
  obtain ⟨l, x, y, wd, ht⟩ := v
  have hs : -2000000 ≤ wd ∧ wd ≤ 2000000 := hs
  unfold g__law_is_view
  bv_omega
  unfold p__law_is_view
  bv_omega
  by_cases c1 : 0 ≤ l ∧ l < L
  · have h6 : 0 ≤ l ∧ l < 6 := by omega
    rw [show (decide (0 ≤ l) && decide (l < L)) = true by simp [c1]]
    bv_omega
    refine kOr_j ?_
    bv_omega
    refine kOr_j ?_
    bv_omega
    rw [mulK_l (by unfold small; simp only [Bool.and_eq_true, decide_eq_true_eq]; omega)]
    bv_omega
    refine kIte_b (fun e => ?_) (fun e => ?_)
    · bv_omega
      have : vwB L ⟨l, x, y, wd, ht⟩ = false := by
        unfold vwB
        simp only [Bool.or_eq_true, decide_eq_true_eq] at e
        exact decide_eq_false fun z => by simp only at z; omega
      rw [this] at k
      exact k
    · bv_omega
      refine side_sp h6 ?_
      bv_omega
      have : vwB L ⟨l, x, y, wd, ht⟩ = decide (max (x + wd) (y + ht) ≤ sideI l) := by
        unfold vwB
        simp only [Bool.or_eq_false_iff, decide_eq_false_iff_not] at e
        rw [decide_eq_decide]
        simp only
        omega
      rw [this] at k
      exact k
  · rw [show (decide (0 ≤ l) && decide (l < L)) = false by simp; omega]
    bv_omega
    have : vwB L ⟨l, x, y, wd, ht⟩ = false := by
      unfold vwB
      exact decide_eq_false fun z => c1 ⟨z.1, z.2.1⟩
    rw [this] at k
    exact k
theorem need_view_sp {L : Int} {v : VV} (hL : L ≤ 6) (hs : smallV v) (k1 : VOk L v → P (.d .none) [dI L, .d v.d]) (k2 : vwB L v = false → X ⟨3, none⟩ [dI L, .d v.d]) : Wf (g_need_view [dI L, .d v.d]) P X := by
  unfold g_need_view
  bv_omega
  unfold p_need_view
  bv_omega
  refine is_view_sp hL hs ?_
  bv_omega
  cases e : vwB L v with
  | true =>
    rw [Bool.not_true]
    bv_omega
    exact k1 (vwB_ok.mp e)
  | false =>
    rw [Bool.not_false]
    bv_omega
    exact k2 e
theorem wanted_sp {L : Int} {v : VV} (hL : 1 ≤ L ∧ L ≤ 6) (hs : smallV v) (k1 : VOk L v → P (.ol ((wantsI v).map rowD)) [dI L, .d v.d]) (k2 : vwB L v = false → X ⟨3, none⟩ [dI L, .d v.d]) : Wf (g_wanted [dI L, .d v.d]) P X := by
  unfold g_wanted
  bv_omega
  unfold p_wanted
  bv_omega
  refine Wf.of (need_levels_ok L hL) ?_
  bv_omega
  refine need_view_sp hL.2 hs (fun e => ?_) (fun e => ?_)
  · bv_omega
    refine Wf.of (wanted_ok L hL.2 v e) ?_
    bv_omega
    exact k1 e
  · bv_omega
    exact k2 e
theorem wanted_x {L : Int} {v : VV} (hL : ¬ (1 ≤ L ∧ L ≤ 6)) (k : X ⟨1, none⟩ [dI L, .d v.d]) : Wf (g_wanted [dI L, .d v.d]) P X := by
  unfold g_wanted
  bv_omega
  unfold p_wanted
  bv_omega
  refine need_levels_x hL ?_
  bv_omega
  exact k
end
end TL
set_option linter.all false
set_option maxRecDepth 100000
set_option maxHeartbeats 4000000
namespace TL
open PySem PySem.Spec PyProof.Rows L2 TP
variable [TabsOf]
local macro_rules | `(tactic| bv_omega) => `(tactic| repeat (first
  | simp only [w_seq, kSeq_nx, kSeq_rt, kSeq_ct, kSeq_bk, w_nx, w_bk, w_ct, w_ret, kRet_ok, w_retN, w_drop, kDrop_ok, w_set, kSet_ok, kO_some, w_asg, kAsg_ok, w_ite, kIte_t, kIte_f, w_raise, w_par2, kPar2_ok, w_par3, kPar3_ok,
    w_run, kRun_rt, kRun_nx, kRunX_ok, List.take_succ_cons, List.take_zero, List.length_cons, List.length_nil, Nat.sub_self, List.replicate_succ, List.replicate_zero, List.cons_append, List.nil_append,
    wo_nil, wo_e, kOe_ok, wo_c, wo_s, wo_p, kOt_ok, kOs_ok, kOp_ok, kSl_d, kSl_ol, kSl_on, kSl_tn, kSl_dt, kSl_dk, kSl_ob, w_c, w_var, kVar_d, kVar_ol, w_mv, kMv_d, kMv_ol, kMv_on, kMv_tn, kMv_dt, kMv_dk, kMv_ob, w_get, kGet_d, w_n, kN_ok,
    w_andE, kAndE_t, kAndE_f, w_orE, kOrE_t, kOrE_f, kBothE_ok, w_notE, kNotE_ok, w_if, kIf_t, kIf_f, kInt_ok, w_chain, kCh1_ok, kCh2_c, kCh2_v, kChV_i, w_tup, kTup_ok, w_lst, kLst_ok, mkT1d, mkT2d, mkT3d, mkT5d, mkL0, mkL1, mkL2, mkL3, mkL4, mkL5, mkL6, row3, Nat.reduceLeDiff, true_and,
    w_fz, kFz_ok, toD_d, toD_ol, w_call, kCall_ok, kPut_ok, kPutX_ok, takeHs_s, takeHs_t, takeHs_n, kTk_d, kTk_ol, kTk_on, kTk_tn, kTk_dt, kTk_dk, kTk_ob, putHs_s, putHs_t, putHs_n, w_peek, kPeek_ok, kSc_i, kSc_b, lookD_n, lookD_t, lookD_s,
    w_slice, kSl0_ok, kSl1_ok, w_part0, w_part1, kPart_ok, kLs_d, kLs_ol, w_revD, kRev_ok, w_rep, kRep_ok, w_dict0, w_mut, kMut_ok, hdA_d, hdArgs_n, hdArgs_t, hdArgs_s, w_mutT, kMT1_ok, w_meth, kOb_ok, getP_n, getP_c, setP_n, setP_c, setK_on, setK_tn, setK_dk, setK_ob, kids_on, kids_tn, kids_dk, kids_ob,
    w_store, kStore_ok, qv_c, qv_s, qv_p, w_tb, kTb_ok, w_and, kAnd_t, kAnd_f, w_or, kOr_t, kOr_f, kBoth_ok, w_not, kNot_ok, w_yes, w_for, w_sList, w_sTup, kTs_d, w_sStr, kStrS_ok, w_sRng, kRng_ok, w_sZip, kBody_nx, kBody_ct, kBody_bk, kBody_rt, w_comp, kCE_d, kCE_ol, wipeR_n, wipeR_c, kCT_t, kCT_f,
    hviews, hview_t, hview_s, hview_p, vwd, vwol, vwdt, List.getElem?_cons_zero, List.getElem?_cons_succ, List.set_cons_zero, List.set_cons_succ, Option.bind_some, Option.map_some, Option.bind_none, Option.map_none, gN_ok, gT_ok, gAll, parts_t, parts_row, List.map_cons, List.map_nil, Bool.not_true, Bool.not_false, hdRs, List.all_cons, List.all_nil, Bool.and_true, Op.quiet,
    eqK_int, neK_int, eqK_row, neK_row, inK_row, notInK_row, eqK_rows, neK_rows, ltK_int, leK_int, gtK_int, geK_int, minK_int, maxK_int, minK_int3, lenK_map, listK_l, addK_int, subK_int, negK_int, intK_bool, intK_int, isNotK_b, isK_b, cutD_map, kMutI_l, isi2_i, isi2_b, isi2_s, isi2_n, isi2_l, isi2_t, isi1_l, isi1_t, isi0_l, isi0_t, isN_i, isN_b, isN_s, isN_n, isi_2i, isi_2b, isi_2s, isi_3i, isi_3b, isi_4i, eqK_bool, neK_bool, beq_self_eq_true]
  | rw [rng1_i (by omega)] | rw [rng2_i (by omega) (by omega)] | rw [modK_ok (by omega)] | rw [fdivK_ok (by omega)] | rw [mulK_l (by decide)] | rw [mulK_r (by decide)]
  | rw [appendM_map (by first | omega | (simp; omega))] | rw [appendM_d (by first | omega | (simp; omega))] | rw [addK_map _ _ _ (by first | omega | (simp; omega))] | rw [kRep1_ok (by first | omega | (simp; omega))]))
/-! ### over, odd -/
theorem listK_t {xs : List PyData} : listK [.tuple xs] = some (.ol xs) := (rfl)
theorem tupleK_l {xs : List PyData} : tupleK [.list xs] = some (.d (.tuple xs)) := (rfl)
theorem reverseM_ol {xs : List PyData} : reverseM (.ol xs) [] = some (.ol xs.reverse, .d .none) := (rfl)
theorem pow6 : powK [.int 10, .int 6] = some (dI 1000000) := (rfl)
theorem pick4i (a b c d : Int) {i : Int} (h : 0 ≤ i ∧ i < 4) : ∃ m, (m = a ∨ m = b ∨ m = c ∨ m = d) ∧ ixK [.list [.int a, .int b, .int c, .int d], .int i] = some (dI m) := by
  have : i = 0 ∨ i = 1 ∨ i = 2 ∨ i = 3 := by omega
  rcases this with rfl | rfl | rfl | rfl
  · exact ⟨a, .inl rfl, rfl⟩
  · exact ⟨b, .inr (.inl rfl), rfl⟩
  · exact ⟨c, .inr (.inr (.inl rfl)), rfl⟩
  · exact ⟨d, .inr (.inr (.inr rfl)), rfl⟩
theorem pick5i (a b c d e : Int) {i : Int} (h : 0 ≤ i ∧ i < 5) : ∃ m, (m = a ∨ m = b ∨ m = c ∨ m = d ∨ m = e) ∧ ixK [.list [.int a, .int b, .int c, .int d, .int e], .int i] = some (dI m) := by
  have : i = 0 ∨ i = 1 ∨ i = 2 ∨ i = 3 ∨ i = 4 := by omega
  rcases this with rfl | rfl | rfl | rfl | rfl
  · exact ⟨a, .inl rfl, rfl⟩
  · exact ⟨b, .inr (.inl rfl), rfl⟩
  · exact ⟨c, .inr (.inr (.inl rfl)), rfl⟩
  · exact ⟨d, .inr (.inr (.inr (.inl rfl))), rfl⟩
  · exact ⟨e, .inr (.inr (.inr (.inr rfl))), rfl⟩
theorem ix3 {a b c : Int} : ixK [rowD [a, b, c], .int 0] = some (dI a) ∧ ixK [rowD [a, b, c], .int 1] = some (dI b) ∧ ixK [rowD [a, b, c], .int 2] = some (dI c) := ⟨rfl, rfl, rfl⟩
section
variable {P : EPost} {X : XPost}
theorem over_sp {l x y t : Int} (h : 0 ≤ l - t ∧ l - t < 6) (k : P (.d (rowD [t, x / sideI (l - t), y / sideI (l - t)])) [.d (rowD [l, x, y]), dI t]) : Wf (g__law_over [.d (rowD [l, x, y]), dI t]) P X := by
  unfold g__law_over
  bv_omega
  unfold p__law_over
  bv_omega
  rw [ix3.1]
  bv_omega
  refine side_sp h ?_
  bv_omega
  rw [ix3.2.1]
  have := side_pos h
  bv_omega
  rw [ix3.2.2]
  bv_omega
  exact k
theorem odd_sp {h : Hs} {L : Int} (ok : Hok h) (hL : 1 ≤ L ∧ L ≤ 6) (k : ∀ v h', smallV v → Hok h' → P (.d v.d) [rH h', dI L]) : Wf (g__law_odd [rH h, dI L]) P X := by
  unfold g__law_odd
  bv_omega
  unfold p__law_odd
  bv_omega
  refine view_sp ok hL fun v h1 hv k1 => ?_
  obtain ⟨l, x, y, wd, ht⟩ := v
  have s1 := side_pos (l := l) ⟨hv.l0, by have := hv.l1; simp only at this; omega⟩
  obtain ⟨a0, a1, a2, a3, a4, a5, a6, a7, a8⟩ := hv
  simp only at a0 a1 a2 a3 a4 a5 a6 a7 a8
  bv_omega
  rw [listK_t]
  bv_omega
  rw [pow6]
  bv_omega
  refine next_sp k1 (by omega) fun r2 h2 b2 c2 k2 => ?_
  bv_omega
  refine next_sp k2 (by omega) fun r3 h3 b3 c3 k3 => ?_
  bv_omega
  have c5 : r3 = 0 ∨ r3 = 1 ∨ r3 = 2 ∨ r3 = 3 ∨ r3 = 4 := by omega
  rcases c5 with rfl | rfl | rfl | rfl | rfl
  · rw [show ixK [.list [.int l, .int x, .int y, .int wd, .int ht], .int 0] = some (dI l) from rfl]
    bv_omega
    refine next_sp k3 (by omega) fun r4 h4 b4 c4 k4 => ?_
    bv_omega
    obtain ⟨m, hm, em⟩ := pick5i (l + 1) (-1 - r2) (16 + r2) 0 (l - 1) (i := r4) (by omega)
    rw [em]
    bv_omega
    rw [show stL (.ol [.int l, .int x, .int y, .int wd, .int ht]) (.int 0) (dI m) = some (.ol [.int m, .int x, .int y, .int wd, .int ht]) from rfl]
    bv_omega
    rw [tupleK_l]
    bv_omega
    exact k ⟨m, x, y, wd, ht⟩ h4 (by unfold smallV; simp only; omega) k4
  · rw [show ixK [.list [.int l, .int x, .int y, .int wd, .int ht], .int 1] = some (dI x) from rfl]
    bv_omega
    refine next_sp k3 (by omega) fun r4 h4 b4 c4 k4 => ?_
    bv_omega
    obtain ⟨m, hm, em⟩ := pick5i (x + 1) (-1 - r2) (16 + r2) 0 (x - 1) (i := r4) (by omega)
    rw [em]
    bv_omega
    rw [show stL (.ol [.int l, .int x, .int y, .int wd, .int ht]) (.int 1) (dI m) = some (.ol [.int l, .int m, .int y, .int wd, .int ht]) from rfl]
    bv_omega
    rw [tupleK_l]
    bv_omega
    exact k ⟨l, m, y, wd, ht⟩ h4 (by unfold smallV; simp only; omega) k4
  · rw [show ixK [.list [.int l, .int x, .int y, .int wd, .int ht], .int 2] = some (dI y) from rfl]
    bv_omega
    refine next_sp k3 (by omega) fun r4 h4 b4 c4 k4 => ?_
    bv_omega
    obtain ⟨m, hm, em⟩ := pick5i (y + 1) (-1 - r2) (16 + r2) 0 (y - 1) (i := r4) (by omega)
    rw [em]
    bv_omega
    rw [show stL (.ol [.int l, .int x, .int y, .int wd, .int ht]) (.int 2) (dI m) = some (.ol [.int l, .int x, .int m, .int wd, .int ht]) from rfl]
    bv_omega
    rw [tupleK_l]
    bv_omega
    exact k ⟨l, x, m, wd, ht⟩ h4 (by unfold smallV; simp only; omega) k4
  · rw [show ixK [.list [.int l, .int x, .int y, .int wd, .int ht], .int 3] = some (dI wd) from rfl]
    bv_omega
    refine next_sp k3 (by omega) fun r4 h4 b4 c4 k4 => ?_
    bv_omega
    obtain ⟨m, hm, em⟩ := pick5i (wd + 1) (-1 - r2) (16 + r2) 0 (wd - 1) (i := r4) (by omega)
    rw [em]
    bv_omega
    rw [show stL (.ol [.int l, .int x, .int y, .int wd, .int ht]) (.int 3) (dI m) = some (.ol [.int l, .int x, .int y, .int m, .int ht]) from rfl]
    bv_omega
    rw [tupleK_l]
    bv_omega
    exact k ⟨l, x, y, m, ht⟩ h4 (by unfold smallV; simp only; omega) k4
  · rw [show ixK [.list [.int l, .int x, .int y, .int wd, .int ht], .int 4] = some (dI ht) from rfl]
    bv_omega
    refine next_sp k3 (by omega) fun r4 h4 b4 c4 k4 => ?_
    bv_omega
    obtain ⟨m, hm, em⟩ := pick5i (ht + 1) (-1 - r2) (16 + r2) 0 (ht - 1) (i := r4) (by omega)
    rw [em]
    bv_omega
    rw [show stL (.ol [.int l, .int x, .int y, .int wd, .int ht]) (.int 4) (dI m) = some (.ol [.int l, .int x, .int y, .int wd, .int m]) from rfl]
    bv_omega
    rw [tupleK_l]
    bv_omega
    exact k ⟨l, x, y, wd, m⟩ h4 (by unfold smallV; simp only; omega) k4
end
/-! rows are alike -/
theorem like_ints : ∀ xs : List Int, likeDs (xs.map .int) = true
  | [] => rfl
  | x :: xs => by simp [likeDs, likeD, like_ints xs]
theorem like_row {r : List Int} (h : r.length ≤ 10000) : likeD (rowD r) = true := by
  unfold rowD likeD
  rw [like_ints]; simp [h]
theorem like_rows0 : ∀ {rs : List (List Int)}, (∀ r ∈ rs, r.length ≤ 10000) → likeDs (rs.map rowD) = true
  | [], _ => rfl
  | r :: rs, h => by
    rw [List.map_cons, likeDs, like_row (h r List.mem_cons_self), like_rows0 fun q hq => h q (List.mem_cons_of_mem _ hq)]; rfl
theorem like_rows {rs : List (List Int)} (h : ∀ r ∈ rs, r.length ≤ 10000) (hl : rs.length ≤ 10000) : likeD (rowsD rs) = true := by
  unfold rowsD likeD
  rw [like_rows0 h]; simp [hl]
theorem dep_rows (rs : List (List Int)) : (rowsD rs).depth < 6 := by
  have := depth_rows rs
  unfold rowsD PyData.depth
  omega
end TL
set_option linter.all false
set_option maxRecDepth 100000
set_option maxHeartbeats 4000000
namespace TL
open PySem PySem.Spec PyProof.Rows L2 TP
variable [TabsOf]
local macro_rules | `(tactic| bv_omega) => `(tactic| repeat (first
  | simp only [w_seq, kSeq_nx, kSeq_rt, kSeq_ct, kSeq_bk, w_nx, w_bk, w_ct, w_ret, kRet_ok, w_retN, w_drop, kDrop_ok, w_set, kSet_ok, kO_some, w_asg, kAsg_ok, w_ite, kIte_t, kIte_f, w_raise, w_par2, kPar2_ok, w_par3, kPar3_ok,
    w_run, kRun_rt, kRun_nx, kRunX_ok, List.take_succ_cons, List.take_zero, List.length_cons, List.length_nil, Nat.sub_self, List.replicate_succ, List.replicate_zero, List.cons_append, List.nil_append,
    wo_nil, wo_e, kOe_ok, wo_c, wo_s, wo_p, kOt_ok, kOs_ok, kOp_ok, kSl_d, kSl_ol, kSl_on, kSl_tn, kSl_dt, kSl_dk, kSl_ob, w_c, w_var, kVar_d, kVar_ol, w_mv, kMv_d, kMv_ol, kMv_on, kMv_tn, kMv_dt, kMv_dk, kMv_ob, w_get, kGet_d, w_n, kN_ok,
    w_andE, kAndE_t, kAndE_f, w_orE, kOrE_t, kOrE_f, kBothE_ok, w_notE, kNotE_ok, w_if, kIf_t, kIf_f, kInt_ok, w_chain, kCh1_ok, kCh2_c, kCh2_v, kChV_i, w_tup, kTup_ok, w_lst, kLst_ok, mkT1d, mkT2d, mkT3d, mkT5d, mkL0, mkL1, mkL2, mkL3, mkL4, mkL5, mkL6, row3, Nat.reduceLeDiff, true_and,
    w_fz, kFz_ok, toD_d, toD_ol, w_call, kCall_ok, kPut_ok, kPutX_ok, takeHs_s, takeHs_t, takeHs_n, kTk_d, kTk_ol, kTk_on, kTk_tn, kTk_dt, kTk_dk, kTk_ob, putHs_s, putHs_t, putHs_n, w_peek, kPeek_ok, kSc_i, kSc_b, lookD_n, lookD_t, lookD_s,
    w_slice, kSl0_ok, kSl1_ok, w_part0, w_part1, kPart_ok, kLs_d, kLs_ol, w_revD, kRev_ok, w_rep, kRep_ok, w_dict0, w_mut, kMut_ok, hdA_d, hdArgs_n, hdArgs_t, hdArgs_s, w_mutT, kMT1_ok, w_meth, kOb_ok, getP_n, getP_c, setP_n, setP_c, setK_on, setK_tn, setK_dk, setK_ob, kids_on, kids_tn, kids_dk, kids_ob,
    w_store, kStore_ok, qv_c, qv_s, qv_p, w_tb, kTb_ok, w_and, kAnd_t, kAnd_f, w_or, kOr_t, kOr_f, kBoth_ok, w_not, kNot_ok, w_yes, w_for, w_sList, w_sTup, kTs_d, w_sStr, kStrS_ok, w_sRng, kRng_ok, w_sZip, kBody_nx, kBody_ct, kBody_bk, kBody_rt, w_comp, kCE_d, kCE_ol, wipeR_n, wipeR_c, kCT_t, kCT_f,
    hviews, hview_t, hview_s, hview_p, vwd, vwol, vwdt, List.getElem?_cons_zero, List.getElem?_cons_succ, List.set_cons_zero, List.set_cons_succ, Option.bind_some, Option.map_some, Option.bind_none, Option.map_none, gN_ok, gT_ok, gAll, parts_t, parts_row, List.map_cons, List.map_nil, Bool.not_true, Bool.not_false, hdRs, List.all_cons, List.all_nil, Bool.and_true, Op.quiet,
    eqK_int, neK_int, eqK_row, neK_row, inK_row, notInK_row, eqK_rows, neK_rows, ltK_int, leK_int, gtK_int, geK_int, minK_int, maxK_int, minK_int3, lenK_map, listK_l, addK_int, subK_int, negK_int, intK_bool, intK_int, isNotK_b, isK_b, cutD_map, kMutI_l, isi2_i, isi2_b, isi2_s, isi2_n, isi2_l, isi2_t, isi1_l, isi1_t, isi0_l, isi0_t, isN_i, isN_b, isN_s, isN_n, isi_2i, isi_2b, isi_2s, isi_3i, isi_3b, isi_4i, eqK_bool, neK_bool, beq_self_eq_true]
  | rw [rng1_i (by omega)] | rw [rng2_i (by omega) (by omega)] | rw [modK_ok (by omega)] | rw [fdivK_ok (by omega)] | rw [mulK_l (by decide)] | rw [mulK_r (by decide)]
  | rw [appendM_map (by first | omega | (simp; omega))] | rw [appendM_d (by first | omega | (simp; omega))] | rw [addK_map _ _ _ (by first | omega | (simp; omega))] | rw [kRep1_ok (by first | omega | (simp; omega))]))
abbrev st1 (s : PyData) (h : Hs) (q2 q3 q4 q5 q6 q7 q8 q9 q10 q11 q12 q13 q14 q15 : R) : List R := [.d s, rH h, q2, q3, q4, q5, q6, q7, q8, q9, q10, q11, q12, q13, q14, q15, .junk]
theorem sok1 : PyData.strOk "BadSquare" = true := by decide +kernel
theorem sok2 : PyData.strOk "BadView" = true := by decide +kernel
theorem sok3 : PyData.strOk "BadPicture" = true := by decide +kernel
theorem sok4 : PyData.strOk "" = true := by decide +kernel
theorem two_same : neK [.list [.str "BadPicture", .str "BadPicture"], .list (List.replicate (Int.toNat 2) [PyData.str "BadPicture"]).flatten] = some (dB false) := by
  show neK [.list [.str "BadPicture", .str "BadPicture"], .list [.str "BadPicture", .str "BadPicture"]] = _
  have : neK [.list [.str "BadPicture", .str "BadPicture"], .list [.str "BadPicture", .str "BadPicture"]] = if (notDict (.list [.str "BadPicture", .str "BadPicture"]) && notDict (.list [.str "BadPicture", .str "BadPicture"]) && SeqAt.shaped (.list [.str "BadPicture", .str "BadPicture"]) && SeqAt.shaped (.list [.str "BadPicture", .str "BadPicture"])) = true then some (.d (.bool (!PyData.eqv (.list [.str "BadPicture", .str "BadPicture"]) (.list [.str "BadPicture", .str "BadPicture"])))) else none := rfl
  rw [this, if_pos (by decide +kernel)]
  rw [show PyData.eqv (.list [.str "BadPicture", .str "BadPicture"]) (.list [.str "BadPicture", .str "BadPicture"]) = true by decide +kernel]; rfl
theorem due_eld (l x y : Int) (hl : 0 ≤ l) : ((List.range l.toNat).map fun (k : Nat) => (0 : Int) + (k : Int)).map (fun k => [l - 1 - k, x / sideI (l - (l - 1 - k)), y / sideI (l - (l - 1 - k))]) = eldI l x y l.toNat := by
  unfold eldI
  rw [List.map_map]
  refine List.map_congr_left fun k hk => ?_
  simp only [Function.comp]
  rw [Int.zero_add, show l - (l - 1 - (k : Int)) = ((k + 1 : Nat) : Int) by omega]
  unfold sideI
  rw [Int.toNat_natCast]
theorem eld_like (l x y : Int) {n : Nat} (hn : n ≤ 6) : likeD (rowsD (eldI l x y n)) = true := by
  refine like_rows (fun r hr => ?_) (by unfold eldI; rw [List.length_map, List.length_range]; omega)
  obtain ⟨k, _, rfl⟩ := List.mem_map.mp hr
  simp
theorem wants_like {L : Int} {v : VV} (hv : VOk L v) : likeD (rowsD (wantsI v)) = true := by
  refine like_rows (fun r hr => ?_) (by rw [wants_len]; have := hv.wh; omega)
  obtain ⟨k, _, rfl⟩ := List.mem_map.mp hr
  simp
theorem addK_42 {a b c d e f : PyData} : addK [.list [a, b, c, d], .list [e, f]] = some (.ol [a, b, c, d, e, f]) := (rfl)
theorem ixK_bv {b : Bool} : ixK [.list [.str "BadView", .str ""], .int (bI b)] = some (.d (.str (if b = true then "" else "BadView"))) := by cases b <;> rfl
theorem law_ok (ns : List Int) (hn : ns.length ≤ 63) : ∃ rs', g_law [.d (.list (ns.map .int))] = .ok (.d (.bool true)) rs' := by
  have w : Wf (g_law [.d (.list (ns.map .int))]) (fun r _ => r = .d (.bool true)) noX := by
    unfold g_law
    bv_omega
    unfold p_law
    bv_omega
    refine mix_sp ns hn 3 fun h ok => ?_
    bv_omega
    refine next_sp ok (by omega) fun r0 h0 a0 b0 k0 => ?_
    bv_omega
    refine kFor_r0 (fun _ ρ => ∃ h q3 q4 q5 q6 q7 q8 q9 q10 q11 q12 q13 q14 q15, ρ = st1 (.list (ns.map .int)) h (dI (1 + r0)) q3 q4 q5 q6 q7 q8 q9 q10 q11 q12 q13 q14 q15 ∧ Hok h) ⟨h0, _, _, _, _, _, _, _, _, _, _, _, _, _, rfl, k0⟩ ?_ ?_
    · rintro t _ ht ⟨h, q3, q4, q5, q6, q7, q8, q9, q10, q11, q12, q13, q14, q15, rfl, ok⟩
      bv_omega
      refine next_sp ok (by omega) fun l h1 a1 b1 k1 => ?_
      have l6 : 0 ≤ l ∧ l < 6 := by omega
      have ls := side_pos l6
      bv_omega
      refine side_sp l6 ?_
      bv_omega
      refine next_sp k1 (by omega) fun x h2 a2 b2 k2 => ?_
      bv_omega
      refine side_sp l6 ?_
      bv_omega
      refine next_sp k2 (by omega) fun y h3 a3 b3 k3 => ?_
      bv_omega
      rw [map_int_range]
      refine kComp_p (enc := .int) (dec := rowD) (fun _ => true) (fun k => [l - 1 - k, x / sideI (l - (l - 1 - k)), y / sideI (l - (l - 1 - k))]) rfl (by rw [List.length_map, List.length_range]; omega) rfl rfl (fun k hk => ?_) ?_
      · have hk2 : 0 ≤ k ∧ k < l := by
          obtain ⟨j, hj, rfl⟩ := List.mem_map.mp hk
          have := List.mem_range.mp hj
          omega
        bv_omega
        exact kPT_ok rfl rfl fun _ => by
          bv_omega
          refine over_sp (by omega) ?_
          bv_omega
          exact kPE_ok rfl rfl
      rw [filter_yes, due_eld l x y a1]
      bv_omega
      refine view_sp k3 (by omega) fun v h4 hv k4 => ?_
      bv_omega
      have sq1 : isSq (1 + r0) [l, x, y] = true := by
        unfold isSq
        simp only [Bool.and_eq_true, decide_eq_true_eq]
        omega
      have sv : smallV v := by
        have h1 := hv.w0; have h2 := hv.xw; have h3 := hv.x0; have := side_pos (l := v.l) ⟨hv.l0, by have := hv.l1; omega⟩
        unfold smallV; omega
      refine kFor_r0 (fun _ ρ => ∃ q8 q9 q10, ρ = st1 (.list (ns.map .int)) h4 (dI (1 + r0)) (dI t) (dI l) (.d (rowD [l, x, y])) (.ol ((eldI l x y l.toNat).map rowD)) (.d v.d) q8 q9 q10 q11 q12 q13 q14 q15) ⟨_, _, _, rfl⟩ ?_ ?_
      · rintro j _ hj ⟨q8, q9, q10, rfl⟩
        bv_omega
        refine elders_sp (by omega) rfl (fun _ => ?_) (fun z => by rw [sq1] at z; cases z)
        show kPut _ _ _ (.ol ((eldI l x y l.toNat).map rowD)) _
        bv_omega
        refine wanted_sp (by omega) sv (fun _ => ?_) (fun z => by rw [vwB_ok.mpr hv] at z; cases z)
        bv_omega
        refine alike_sp (eld_like l x y (by omega)) (dep_rows _) ?_
        bv_omega
        refine wants_sp hv ?_
        bv_omega
        refine alike_sp (wants_like hv) (dep_rows _) ?_
        bv_omega
        rw [show appendM (.ol ((eldI l x y l.toNat).map rowD)) [.d (rowD [0, 0, 0])] = some (.ol ((eldI l x y l.toNat ++ [[0, 0, 0]]).map rowD), .d .none) from appendM_map (by unfold eldI; rw [List.length_map, List.length_range]; omega)]
        bv_omega
        rw [reverseM_ol]
        bv_omega
        exact ⟨_, _, _, rfl⟩
      rintro _ ⟨q8, q9, q10, rfl⟩
      bv_omega
      rw [pow6]
      bv_omega
      refine next_sp k4 (by omega) fun far h5 a5 b5 k5 => ?_
      bv_omega
      refine side_sp l6 ?_
      bv_omega
      rw [addK_42]
      bv_omega
      refine next_sp k5 (by omega) fun r6 h6 a6 b6 k6 => ?_
      bv_omega
      have hs : ∀ z : Int, z ≥ sideI l → ¬ z < sideI l := fun z hz => by omega
      have pick : ∃ r : List Int, r.length = 3 ∧ isSq (1 + r0) r = false ∧ ixK [.list [rowD [1 + r0 + far, 0, 0], rowD [-1 - far, 0, 0], rowD [l, sideI l + far, 0], rowD [l, 0, sideI l + far], rowD [l, -1 - far, 0], rowD [l, 0, -1 - far]], .int r6] = some (.d (rowD r)) := by
        have c6 : r6 = 0 ∨ r6 = 1 ∨ r6 = 2 ∨ r6 = 3 ∨ r6 = 4 ∨ r6 = 5 := by omega
        rcases c6 with rfl | rfl | rfl | rfl | rfl | rfl
        · exact ⟨[1 + r0 + far, 0, 0], rfl, by unfold isSq; simp only [Bool.and_eq_false_iff, decide_eq_false_iff_not]; omega, rfl⟩
        · exact ⟨[-1 - far, 0, 0], rfl, by unfold isSq; simp only [Bool.and_eq_false_iff, decide_eq_false_iff_not]; omega, rfl⟩
        · exact ⟨[l, sideI l + far, 0], rfl, by unfold isSq; simp only [Bool.and_eq_false_iff, decide_eq_false_iff_not]; omega, rfl⟩
        · exact ⟨[l, 0, sideI l + far], rfl, by unfold isSq; simp only [Bool.and_eq_false_iff, decide_eq_false_iff_not]; omega, rfl⟩
        · exact ⟨[l, -1 - far, 0], rfl, by unfold isSq; simp only [Bool.and_eq_false_iff, decide_eq_false_iff_not]; omega, rfl⟩
        · exact ⟨[l, 0, -1 - far], rfl, by unfold isSq; simp only [Bool.and_eq_false_iff, decide_eq_false_iff_not]; omega, rfl⟩
      obtain ⟨ro, ro3, ro1, ero⟩ := pick
      rw [ero]
      bv_omega
      rw [w_kind]
      bv_omega
      refine elders_sp (by omega) ro3 (fun z => by rw [ro1] at z; cases z) (fun _ => ?_)
      bv_omega
      refine kKx_ok (n := 2) (by simp) ?_ ?_
      · simp [kJ, isJ, isJ_or]
      rw [show kWord 2 = "BadSquare" from rfl]
      bv_omega
      rw [neK_str sok1 sok1, show (!decide (("BadSquare" : Str) = "BadSquare")) = false by simp]
      bv_omega
      refine odd_sp k6 (by omega) fun vo h7 so k7 => ?_
      bv_omega
      rw [w_kind]
      bv_omega
      refine wanted_sp (by omega) so (fun e => ?_) (fun e => ?_)
      · bv_omega
        rw [kKd_ok]
        bv_omega
        refine law_is_view_sp (by omega) so ?_
        bv_omega
        rw [ixK_bv, vwB_ok.mpr e, if_pos rfl]
        bv_omega
        rw [neK_str sok4 sok4, show (!decide (("" : Str) = "")) = false by simp]
        bv_omega
        refine next_sp k7 (by omega) fun r8 h8 a8 b8 k8 => ?_
        bv_omega
        obtain ⟨Lb, hb, eb⟩ := pick4i 0 7 (7 + far) (-1 - far) (i := r8) (by omega)
        rw [eb]
        bv_omega
        rw [w_kind]
        bv_omega
        refine elders_x (by omega) ?_
        bv_omega
        refine kKx_ok (n := 1) (by simp) ?_ ?_
        · simp [kJ, isJ, isJ_or]
        rw [show kWord 1 = "BadPicture" from rfl]
        bv_omega
        rw [w_kind]
        bv_omega
        refine wanted_x (by omega) ?_
        bv_omega
        refine kKx_ok (n := 1) (by simp) ?_ ?_
        · simp [kJ, isJ, isJ_or]
        rw [show kWord 1 = "BadPicture" from rfl]
        bv_omega
        rw [kRep1_ok (by decide)]
        bv_omega
        rw [two_same]
        bv_omega
        exact ⟨_, _, _, _, _, _, _, _, _, _, _, _, _, _, rfl, k8⟩
      · bv_omega
        refine kKx_ok (n := 3) (by simp) ?_ ?_
        · simp [kJ, isJ, isJ_or]
        rw [show kWord 3 = "BadView" from rfl]
        bv_omega
        refine law_is_view_sp (by omega) so ?_
        bv_omega
        rw [ixK_bv, e, if_neg (by decide)]
        bv_omega
        rw [neK_str sok2 sok2, show (!decide (("BadView" : Str) = "BadView")) = false by simp]
        bv_omega
        refine next_sp k7 (by omega) fun r8 h8 a8 b8 k8 => ?_
        bv_omega
        obtain ⟨Lb, hb, eb⟩ := pick4i 0 7 (7 + far) (-1 - far) (i := r8) (by omega)
        rw [eb]
        bv_omega
        rw [w_kind]
        bv_omega
        refine elders_x (by omega) ?_
        bv_omega
        refine kKx_ok (n := 1) (by simp) ?_ ?_
        · simp [kJ, isJ, isJ_or]
        rw [show kWord 1 = "BadPicture" from rfl]
        bv_omega
        rw [w_kind]
        bv_omega
        refine wanted_x (by omega) ?_
        bv_omega
        refine kKx_ok (n := 1) (by simp) ?_ ?_
        · simp [kJ, isJ, isJ_or]
        rw [show kWord 1 = "BadPicture" from rfl]
        bv_omega
        rw [kRep1_ok (by decide)]
        bv_omega
        rw [two_same]
        bv_omega
        exact ⟨_, _, _, _, _, _, _, _, _, _, _, _, _, _, rfl, k8⟩
    · rintro _ ⟨h, q3, q4, q5, q6, q7, q8, q9, q10, q11, q12, q13, q14, q15, rfl, ok⟩
      bv_omega
  obtain ⟨r, rs, e, rfl⟩ := w.ex (fun _ _ z => z)
  exact ⟨rs, e⟩
end TL
set_option linter.all false
set_option maxRecDepth 100000
set_option maxHeartbeats 8000000
noncomputable section
namespace TL
open PySem PySem.Spec PyProof.Rows L2 TP
theorem all_mk {l : PySem.W.OpenLaw} {w : World} {K : PySem.W.Frag} {h : Heap} {mg : Str → Option Value} {fa : Addr} (X : K.In h) (G : h.Ns mainGlobals mg) (hfa : mg "law" = some (.ref fa))
    {a0 : Addr} {od0 an0 : Option Addr} {sl0 : Array (Option Value)} {oc0 kV0 dc0 pm0 cd0 ct0 : Value} {a1 : Addr} {od1 an1 : Option Addr} {sl1 : Array (Option Value)} {oc1 kV1 dc1 pm1 cd1 ct1 : Value} {a2 : Addr} {od2 an2 : Option Addr} {sl2 : Array (Option Value)} {oc2 kV2 dc2 pm2 cd2 ct2 : Value} {a3 : Addr} {od3 an3 : Option Addr} {sl3 : Array (Option Value)} {oc3 kV3 dc3 pm3 cd3 ct3 : Value} {a4 : Addr} {od4 an4 : Option Addr} {sl4 : Array (Option Value)} {oc4 kV4 dc4 pm4 cd4 ct4 : Value} {a5 : Addr} {od5 an5 : Option Addr} {sl5 : Array (Option Value)} {oc5 kV5 dc5 pm5 cd5 ct5 : Value} {a6 : Addr} {od6 an6 : Option Addr} {sl6 : Array (Option Value)} {oc6 kV6 dc6 pm6 cd6 ct6 : Value} {a7 : Addr} {od7 an7 : Option Addr} {sl7 : Array (Option Value)} {oc7 kV7 dc7 pm7 cd7 ct7 : Value} {a8 : Addr} {od8 an8 : Option Addr} {sl8 : Array (Option Value)} {oc8 kV8 dc8 pm8 cd8 ct8 : Value} {a9 : Addr} {od9 an9 : Option Addr} {sl9 : Array (Option Value)} {oc9 kV9 dc9 pm9 cd9 ct9 : Value} {a10 : Addr} {od10 an10 : Option Addr} {sl10 : Array (Option Value)} {oc10 kV10 dc10 pm10 cd10 ct10 : Value} {a11 : Addr} {od11 an11 : Option Addr} {sl11 : Array (Option Value)} {oc11 kV11 dc11 pm11 cd11 ct11 : Value} {a12 : Addr} {od12 an12 : Option Addr} {sl12 : Array (Option Value)} {oc12 kV12 dc12 pm12 cd12 ct12 : Value} {a13 : Addr} {od13 an13 : Option Addr} {sl13 : Array (Option Value)} {oc13 kV13 dc13 pm13 cd13 ct13 : Value} {a14 : Addr} {od14 an14 : Option Addr} {sl14 : Array (Option Value)} {oc14 kV14 dc14 pm14 cd14 ct14 : Value} {a15 : Addr} {od15 an15 : Option Addr} {sl15 : Array (Option Value)} {oc15 kV15 dc15 pm15 cd15 ct15 : Value} {a17 : Addr} {od17 an17 : Option Addr} {sl17 : Array (Option Value)} {oc17 kV17 dc17 pm17 cd17 ct17 : Value} {a18 : Addr} {od18 an18 : Option Addr} {sl18 : Array (Option Value)} {oc18 kV18 dc18 pm18 cd18 ct18 : Value} {a19 : Addr} {od19 an19 : Option Addr} {sl19 : Array (Option Value)} {oc19 kV19 dc19 pm19 cd19 ct19 : Value} {e1 : Addr} {e2 : Addr} {e3 : Addr} {a16 : Addr} {od16 an16 : Option Addr} {sl16 : Array (Option Value)} {oc16 kV16 dc16 pm16 cd16 ct16 : Value} {e0 : Addr} {e4 : Addr} {e5 : Addr} {e6 : Addr} {e7 : Addr} {e8 : Addr} {cc19 tt19 : Addr} {coc19 : Value} {cod19 : Option Addr} {vs19 : Array Value} {cos19 : Array (Option Value)} {t11 : Tok} {t12 : Tok} {q13 : Addr} {qd13 : Option Addr} {qn13 : Nat} {qs13 : Array (Option Value)} {q13_0 q13_1 q13_2 q13_3 q13_4 q13_5 : Tok}
    (n0 : PySem.W.nsIn K mainGlobals "need_levels" = some (some (.ref a0)))
    (l0 : K.lookup a0 = some ⟨oc0, od0, .func (PySem.W.fnOf "need_levels" "need_levels" (defArgs (topS 14)) (defBody (topS 14)) (defScope (topS 14)) .none kV0 dc0 pm0 an0 cd0 ct0), sl0⟩)
    (c0 : PySem.W.codeIn K cd0 "need_levels" = true)
    (k0 : PySem.W.keepIn K (.ref a0) = true)
    (n1 : PySem.W.nsIn K mainGlobals "is_square" = some (some (.ref a1)))
    (l1 : K.lookup a1 = some ⟨oc1, od1, .func (PySem.W.fnOf "is_square" "is_square" (defArgs (topS 15)) (defBody (topS 15)) (defScope (topS 15)) .none kV1 dc1 pm1 an1 cd1 ct1), sl1⟩)
    (c1 : PySem.W.codeIn K cd1 "is_square" = true)
    (k1 : PySem.W.keepIn K (.ref a1) = true)
    (n2 : PySem.W.nsIn K mainGlobals "need_square" = some (some (.ref a2)))
    (l2 : K.lookup a2 = some ⟨oc2, od2, .func (PySem.W.fnOf "need_square" "need_square" (defArgs (topS 16)) (defBody (topS 16)) (defScope (topS 16)) .none kV2 dc2 pm2 an2 cd2 ct2), sl2⟩)
    (c2 : PySem.W.codeIn K cd2 "need_square" = true)
    (k2 : PySem.W.keepIn K (.ref a2) = true)
    (n3 : PySem.W.nsIn K mainGlobals "elders_of" = some (some (.ref a3)))
    (l3 : K.lookup a3 = some ⟨oc3, od3, .func (PySem.W.fnOf "elders_of" "elders_of" (defArgs (topS 17)) (defBody (topS 17)) (defScope (topS 17)) .none kV3 dc3 pm3 an3 cd3 ct3), sl3⟩)
    (c3 : PySem.W.codeIn K cd3 "elders_of" = true)
    (k3 : PySem.W.keepIn K (.ref a3) = true)
    (n4 : PySem.W.nsIn K mainGlobals "elders" = some (some (.ref a4)))
    (l4 : K.lookup a4 = some ⟨oc4, od4, .func (PySem.W.fnOf "elders" "elders" (defArgs (topS 18)) (defBody (topS 18)) (defScope (topS 18)) .none kV4 dc4 pm4 an4 cd4 ct4), sl4⟩)
    (c4 : PySem.W.codeIn K cd4 "elders" = true)
    (k4 : PySem.W.keepIn K (.ref a4) = true)
    (n5 : PySem.W.nsIn K mainGlobals "is_view" = some (some (.ref a5)))
    (l5 : K.lookup a5 = some ⟨oc5, od5, .func (PySem.W.fnOf "is_view" "is_view" (defArgs (topS 19)) (defBody (topS 19)) (defScope (topS 19)) .none kV5 dc5 pm5 an5 cd5 ct5), sl5⟩)
    (c5 : PySem.W.codeIn K cd5 "is_view" = true)
    (k5 : PySem.W.keepIn K (.ref a5) = true)
    (n6 : PySem.W.nsIn K mainGlobals "need_view" = some (some (.ref a6)))
    (l6 : K.lookup a6 = some ⟨oc6, od6, .func (PySem.W.fnOf "need_view" "need_view" (defArgs (topS 20)) (defBody (topS 20)) (defScope (topS 20)) .none kV6 dc6 pm6 an6 cd6 ct6), sl6⟩)
    (c6 : PySem.W.codeIn K cd6 "need_view" = true)
    (k6 : PySem.W.keepIn K (.ref a6) = true)
    (n7 : PySem.W.nsIn K mainGlobals "wanted_of" = some (some (.ref a7)))
    (l7 : K.lookup a7 = some ⟨oc7, od7, .func (PySem.W.fnOf "wanted_of" "wanted_of" (defArgs (topS 21)) (defBody (topS 21)) (defScope (topS 21)) .none kV7 dc7 pm7 an7 cd7 ct7), sl7⟩)
    (c7 : PySem.W.codeIn K cd7 "wanted_of" = true)
    (k7 : PySem.W.keepIn K (.ref a7) = true)
    (n8 : PySem.W.nsIn K mainGlobals "wanted" = some (some (.ref a8)))
    (l8 : K.lookup a8 = some ⟨oc8, od8, .func (PySem.W.fnOf "wanted" "wanted" (defArgs (topS 22)) (defBody (topS 22)) (defScope (topS 22)) .none kV8 dc8 pm8 an8 cd8 ct8), sl8⟩)
    (c8 : PySem.W.codeIn K cd8 "wanted" = true)
    (k8 : PySem.W.keepIn K (.ref a8) = true)
    (n9 : PySem.W.nsIn K mainGlobals "_law_mix" = some (some (.ref a9)))
    (l9 : K.lookup a9 = some ⟨oc9, od9, .func (PySem.W.fnOf "_law_mix" "_law_mix" (defArgs (topS 24)) (defBody (topS 24)) (defScope (topS 24)) .none kV9 dc9 pm9 an9 cd9 ct9), sl9⟩)
    (c9 : PySem.W.codeIn K cd9 "_law_mix" = true)
    (k9 : PySem.W.keepIn K (.ref a9) = true)
    (n10 : PySem.W.nsIn K mainGlobals "_law_next" = some (some (.ref a10)))
    (l10 : K.lookup a10 = some ⟨oc10, od10, .func (PySem.W.fnOf "_law_next" "_law_next" (defArgs (topS 25)) (defBody (topS 25)) (defScope (topS 25)) .none kV10 dc10 pm10 an10 cd10 ct10), sl10⟩)
    (c10 : PySem.W.codeIn K cd10 "_law_next" = true)
    (k10 : PySem.W.keepIn K (.ref a10) = true)
    (n11 : PySem.W.nsIn K mainGlobals "_law_alike" = some (some (.ref a11)))
    (l11 : K.lookup a11 = some ⟨oc11, od11, .func (PySem.W.fnOf "_law_alike" "_law_alike" (defArgs (topS 26)) (defBody (topS 26)) (defScope (topS 26)) .none kV11 dc11 pm11 an11 cd11 ct11), sl11⟩)
    (c11 : PySem.W.codeIn K cd11 "_law_alike" = true)
    (k11 : PySem.W.keepIn K (.ref a11) = true)
    (n12 : PySem.W.nsIn K mainGlobals "_law_side" = some (some (.ref a12)))
    (l12 : K.lookup a12 = some ⟨oc12, od12, .func (PySem.W.fnOf "_law_side" "_law_side" (defArgs (topS 27)) (defBody (topS 27)) (defScope (topS 27)) .none kV12 dc12 pm12 an12 cd12 ct12), sl12⟩)
    (c12 : PySem.W.codeIn K cd12 "_law_side" = true)
    (k12 : PySem.W.keepIn K (.ref a12) = true)
    (n13 : PySem.W.nsIn K mainGlobals "_law_view" = some (some (.ref a13)))
    (l13 : K.lookup a13 = some ⟨oc13, od13, .func (PySem.W.fnOf "_law_view" "_law_view" (defArgs (topS 28)) (defBody (topS 28)) (defScope (topS 28)) .none kV13 dc13 pm13 an13 cd13 ct13), sl13⟩)
    (c13 : PySem.W.codeIn K cd13 "_law_view" = true)
    (k13 : PySem.W.keepIn K (.ref a13) = true)
    (n14 : PySem.W.nsIn K mainGlobals "_law_wants" = some (some (.ref a14)))
    (l14 : K.lookup a14 = some ⟨oc14, od14, .func (PySem.W.fnOf "_law_wants" "_law_wants" (defArgs (topS 29)) (defBody (topS 29)) (defScope (topS 29)) .none kV14 dc14 pm14 an14 cd14 ct14), sl14⟩)
    (c14 : PySem.W.codeIn K cd14 "_law_wants" = true)
    (k14 : PySem.W.keepIn K (.ref a14) = true)
    (n15 : PySem.W.nsIn K mainGlobals "_law_over" = some (some (.ref a15)))
    (l15 : K.lookup a15 = some ⟨oc15, od15, .func (PySem.W.fnOf "_law_over" "_law_over" (defArgs (topS 30)) (defBody (topS 30)) (defScope (topS 30)) .none kV15 dc15 pm15 an15 cd15 ct15), sl15⟩)
    (c15 : PySem.W.codeIn K cd15 "_law_over" = true)
    (k15 : PySem.W.keepIn K (.ref a15) = true)
    (n17 : PySem.W.nsIn K mainGlobals "_law_is_view" = some (some (.ref a17)))
    (l17 : K.lookup a17 = some ⟨oc17, od17, .func (PySem.W.fnOf "_law_is_view" "_law_is_view" (defArgs (topS 32)) (defBody (topS 32)) (defScope (topS 32)) .none kV17 dc17 pm17 an17 cd17 ct17), sl17⟩)
    (c17 : PySem.W.codeIn K cd17 "_law_is_view" = true)
    (k17 : PySem.W.keepIn K (.ref a17) = true)
    (n18 : PySem.W.nsIn K mainGlobals "_law_odd" = some (some (.ref a18)))
    (l18 : K.lookup a18 = some ⟨oc18, od18, .func (PySem.W.fnOf "_law_odd" "_law_odd" (defArgs (topS 33)) (defBody (topS 33)) (defScope (topS 33)) .none kV18 dc18 pm18 an18 cd18 ct18), sl18⟩)
    (c18 : PySem.W.codeIn K cd18 "_law_odd" = true)
    (k18 : PySem.W.keepIn K (.ref a18) = true)
    (n19 : PySem.W.nsIn K mainGlobals "law" = some (some (.ref a19)))
    (l19 : K.lookup a19 = some ⟨oc19, od19, .func (PySem.W.fnOf "law" "law" (defArgs (topS 34)) (defBody (topS 34)) (defScope (topS 34)) .none kV19 dc19 pm19 an19 cd19 ct19), sl19⟩)
    (c19 : PySem.W.codeIn K cd19 "law" = true)
    (k19 : PySem.W.keepIn K (.ref a19) = true)
    (en1 : PySem.W.nsIn K mainGlobals "BadPicture" = some (some (.ref e1)))
    (ex1 : PySem.W.excIn K e1 [.type "ValueError", .type "Exception", .type "BaseException", .type "object"] "ValueError.__new__" = true)
    (ek1 : PySem.W.keepIn K (.ref e1) = true)
    (es1 : PySem.W.subIn K (.ref e1) (.type "BaseException") = some true)
    (et1 : PySem.W.typeIn K (.ref e1) = some (.type "type"))
    (en2 : PySem.W.nsIn K mainGlobals "BadSquare" = some (some (.ref e2)))
    (ex2 : PySem.W.excIn K e2 [.type "ValueError", .type "Exception", .type "BaseException", .type "object"] "ValueError.__new__" = true)
    (ek2 : PySem.W.keepIn K (.ref e2) = true)
    (es2 : PySem.W.subIn K (.ref e2) (.type "BaseException") = some true)
    (et2 : PySem.W.typeIn K (.ref e2) = some (.type "type"))
    (en3 : PySem.W.nsIn K mainGlobals "BadView" = some (some (.ref e3)))
    (ex3 : PySem.W.excIn K e3 [.type "ValueError", .type "Exception", .type "BaseException", .type "object"] "ValueError.__new__" = true)
    (ek3 : PySem.W.keepIn K (.ref e3) = true)
    (es3 : PySem.W.subIn K (.ref e3) (.type "BaseException") = some true)
    (et3 : PySem.W.typeIn K (.ref e3) = some (.type "type"))
    (n16 : PySem.W.nsIn K mainGlobals "_law_kind" = some (some (.ref a16)))
    (l16 : K.lookup a16 = some ⟨oc16, od16, .func (PySem.W.fnOf "_law_kind" "_law_kind" (defArgs (topS 31)) (defBody (topS 31)) (defScope (topS 31)) .none kV16 dc16 pm16 an16 cd16 ct16), sl16⟩)
    (c16 : PySem.W.codeIn K cd16 "_law_kind" = true)
    (k16 : PySem.W.keepIn K (.ref a16) = true)
    (en0 : PySem.W.nsIn K mainGlobals "TileError" = some (some (.ref e0)))
    (en4 : PySem.W.nsIn K mainGlobals "BadRoom" = some (some (.ref e4)))
    (en5 : PySem.W.nsIn K mainGlobals "BadWay" = some (some (.ref e5)))
    (en6 : PySem.W.nsIn K mainGlobals "TooSmall" = some (some (.ref e6)))
    (en7 : PySem.W.nsIn K mainGlobals "BadMoments" = some (some (.ref e7)))
    (en8 : PySem.W.nsIn K mainGlobals "BadText" = some (some (.ref e8)))
    (xc1_0 : PySem.W.findIn K (.ref e1) "__getattribute__" = some (some (.builtin "BaseException.__getattribute__")))
    (xc1_1 : PySem.W.findIn K (.ref e1) "__getattr__" = some none)
    (xc1_2 : PySem.W.subIn K (.ref e1) (.type "BaseException") = some true)
    (xc1_3 : PySem.W.hasDictIn K e1 = true)
    (xc1_4 : PySem.W.findIn K (.ref e1) "__class__" = some (some (.builtin "object.__class__")))
    (xc1_5 : PySem.W.specialIn K (.builtin "object.__class__") "__get__" = some (some (.builtin "getset_descriptor.__get__")))
    (xc1_6 : PySem.W.takesIn K (.builtin "object.__class__") = some true)
    (xc1_7 : PySem.W.mroIn K e1 (.type "object") = some true)
    (em1 : PySem.W.exmOne K (.ref e1) (.ref e0) = some true)
    (kv1 : PySem.W.kitOne K (.ref e1) (.type "ValueError") = some true)
    (kt1_1 : PySem.W.kitOne K (.ref e1) (.ref e1) = some true)
    (kt1_2 : PySem.W.kitOne K (.ref e1) (.ref e2) = some false)
    (kt1_3 : PySem.W.kitOne K (.ref e1) (.ref e3) = some false)
    (kt1_4 : PySem.W.kitOne K (.ref e1) (.ref e4) = some false)
    (kt1_5 : PySem.W.kitOne K (.ref e1) (.ref e5) = some false)
    (kt1_6 : PySem.W.kitOne K (.ref e1) (.ref e6) = some false)
    (kt1_7 : PySem.W.kitOne K (.ref e1) (.ref e7) = some false)
    (kt1_8 : PySem.W.kitOne K (.ref e1) (.ref e8) = some false)
    (xc2_0 : PySem.W.findIn K (.ref e2) "__getattribute__" = some (some (.builtin "BaseException.__getattribute__")))
    (xc2_1 : PySem.W.findIn K (.ref e2) "__getattr__" = some none)
    (xc2_2 : PySem.W.subIn K (.ref e2) (.type "BaseException") = some true)
    (xc2_3 : PySem.W.hasDictIn K e2 = true)
    (xc2_4 : PySem.W.findIn K (.ref e2) "__class__" = some (some (.builtin "object.__class__")))
    (xc2_5 : PySem.W.specialIn K (.builtin "object.__class__") "__get__" = some (some (.builtin "getset_descriptor.__get__")))
    (xc2_6 : PySem.W.takesIn K (.builtin "object.__class__") = some true)
    (xc2_7 : PySem.W.mroIn K e2 (.type "object") = some true)
    (em2 : PySem.W.exmOne K (.ref e2) (.ref e0) = some true)
    (kv2 : PySem.W.kitOne K (.ref e2) (.type "ValueError") = some true)
    (kt2_1 : PySem.W.kitOne K (.ref e2) (.ref e1) = some false)
    (kt2_2 : PySem.W.kitOne K (.ref e2) (.ref e2) = some true)
    (kt2_3 : PySem.W.kitOne K (.ref e2) (.ref e3) = some false)
    (kt2_4 : PySem.W.kitOne K (.ref e2) (.ref e4) = some false)
    (kt2_5 : PySem.W.kitOne K (.ref e2) (.ref e5) = some false)
    (kt2_6 : PySem.W.kitOne K (.ref e2) (.ref e6) = some false)
    (kt2_7 : PySem.W.kitOne K (.ref e2) (.ref e7) = some false)
    (kt2_8 : PySem.W.kitOne K (.ref e2) (.ref e8) = some false)
    (xc3_0 : PySem.W.findIn K (.ref e3) "__getattribute__" = some (some (.builtin "BaseException.__getattribute__")))
    (xc3_1 : PySem.W.findIn K (.ref e3) "__getattr__" = some none)
    (xc3_2 : PySem.W.subIn K (.ref e3) (.type "BaseException") = some true)
    (xc3_3 : PySem.W.hasDictIn K e3 = true)
    (xc3_4 : PySem.W.findIn K (.ref e3) "__class__" = some (some (.builtin "object.__class__")))
    (xc3_5 : PySem.W.specialIn K (.builtin "object.__class__") "__get__" = some (some (.builtin "getset_descriptor.__get__")))
    (xc3_6 : PySem.W.takesIn K (.builtin "object.__class__") = some true)
    (xc3_7 : PySem.W.mroIn K e3 (.type "object") = some true)
    (em3 : PySem.W.exmOne K (.ref e3) (.ref e0) = some true)
    (kv3 : PySem.W.kitOne K (.ref e3) (.type "ValueError") = some true)
    (kt3_1 : PySem.W.kitOne K (.ref e3) (.ref e1) = some false)
    (kt3_2 : PySem.W.kitOne K (.ref e3) (.ref e2) = some false)
    (kt3_3 : PySem.W.kitOne K (.ref e3) (.ref e3) = some true)
    (kt3_4 : PySem.W.kitOne K (.ref e3) (.ref e4) = some false)
    (kt3_5 : PySem.W.kitOne K (.ref e3) (.ref e5) = some false)
    (kt3_6 : PySem.W.kitOne K (.ref e3) (.ref e6) = some false)
    (kt3_7 : PySem.W.kitOne K (.ref e3) (.ref e7) = some false)
    (kt3_8 : PySem.W.kitOne K (.ref e3) (.ref e8) = some false)
    (cr19 : cd19 = .ref cc19)
    (co19 : K.lookup cc19 = some ⟨coc19, cod19, .fields vs19, cos19⟩)
    (tb19 : vs19[11]? = some (.ref tt19))
    (ch19 : PySem.W.codeHdIn K cc19 tt19 = true)
    (ht19 : h.get? tt19 = some { cls := .none, data := .fields #[] })
    (nt19 : K.lookup tt19 = none)
    (z_ValueError : PySem.W.nsIn K mainGlobals "ValueError" = some none)
    (z_bool : PySem.W.nsIn K mainGlobals "bool" = some none)
    (z_int : PySem.W.nsIn K mainGlobals "int" = some none)
    (z_isinstance : PySem.W.nsIn K mainGlobals "isinstance" = some none)
    (z_len : PySem.W.nsIn K mainGlobals "len" = some none)
    (z_list : PySem.W.nsIn K mainGlobals "list" = some none)
    (z_max : PySem.W.nsIn K mainGlobals "max" = some none)
    (z_min : PySem.W.nsIn K mainGlobals "min" = some none)
    (z_range : PySem.W.nsIn K mainGlobals "range" = some none)
    (z_str : PySem.W.nsIn K mainGlobals "str" = some none)
    (z_tuple : PySem.W.nsIn K mainGlobals "tuple" = some none)
    (g11 : PySem.W.nsIn K mainGlobals "MOST_LEVELS" = some (some (.int 6 t11)))
    (g12 : PySem.W.nsIn K mainGlobals "MOST_WANTED" = some (some (.int 16 t12)))
    (g13 : PySem.W.nsIn K mainGlobals "SIDES" = some (some (.ref q13)))
    (h13 : K.lookup q13 = some ⟨.type "tuple", qd13, .seq #[.int 1 q13_0, .int 2 q13_1, .int 4 q13_2, .int 8 q13_3, .int 16 q13_4, .int 32 q13_5] qn13, qs13⟩)
    : LamX.LawAtS l w K (L2.CX l.prog w) 8 63 "_law_script" mg fa h := by
  subst cr19
  letI : TP.TabsOf := ⟨[(tt19, (envOfC "law" (defScope (topS 34)) 0 0 .none).qual ++ "<lambda>")]⟩
  let A : Nat → Addr := fun i => if i < 100 then [a0, a1, a2, a3, a4, a5, a6, a7, a8, a9, a10, a11, a12, a13, a14, a15, a16, a17, a18, a19].getD i 0 else if i < 200 then [e0, e1, e2, e3, e4, e5, e6, e7, e8].getD (i - 100) 0 else if i < 350 then [0, 0, 0, 0, 0, 0, 0, 0, 0, 0, 0, 0, 0, q13].getD (i - 200) 0 else [cc19, tt19].getD (i - 350) 0
  let FD : Nat → FuncData := fun i => [(PySem.W.fnOf "need_levels" "need_levels" (defArgs (topS 14)) (defBody (topS 14)) (defScope (topS 14)) .none kV0 dc0 pm0 an0 cd0 ct0), (PySem.W.fnOf "is_square" "is_square" (defArgs (topS 15)) (defBody (topS 15)) (defScope (topS 15)) .none kV1 dc1 pm1 an1 cd1 ct1), (PySem.W.fnOf "need_square" "need_square" (defArgs (topS 16)) (defBody (topS 16)) (defScope (topS 16)) .none kV2 dc2 pm2 an2 cd2 ct2), (PySem.W.fnOf "elders_of" "elders_of" (defArgs (topS 17)) (defBody (topS 17)) (defScope (topS 17)) .none kV3 dc3 pm3 an3 cd3 ct3), (PySem.W.fnOf "elders" "elders" (defArgs (topS 18)) (defBody (topS 18)) (defScope (topS 18)) .none kV4 dc4 pm4 an4 cd4 ct4), (PySem.W.fnOf "is_view" "is_view" (defArgs (topS 19)) (defBody (topS 19)) (defScope (topS 19)) .none kV5 dc5 pm5 an5 cd5 ct5), (PySem.W.fnOf "need_view" "need_view" (defArgs (topS 20)) (defBody (topS 20)) (defScope (topS 20)) .none kV6 dc6 pm6 an6 cd6 ct6), (PySem.W.fnOf "wanted_of" "wanted_of" (defArgs (topS 21)) (defBody (topS 21)) (defScope (topS 21)) .none kV7 dc7 pm7 an7 cd7 ct7), (PySem.W.fnOf "wanted" "wanted" (defArgs (topS 22)) (defBody (topS 22)) (defScope (topS 22)) .none kV8 dc8 pm8 an8 cd8 ct8), (PySem.W.fnOf "_law_mix" "_law_mix" (defArgs (topS 24)) (defBody (topS 24)) (defScope (topS 24)) .none kV9 dc9 pm9 an9 cd9 ct9), (PySem.W.fnOf "_law_next" "_law_next" (defArgs (topS 25)) (defBody (topS 25)) (defScope (topS 25)) .none kV10 dc10 pm10 an10 cd10 ct10), (PySem.W.fnOf "_law_alike" "_law_alike" (defArgs (topS 26)) (defBody (topS 26)) (defScope (topS 26)) .none kV11 dc11 pm11 an11 cd11 ct11), (PySem.W.fnOf "_law_side" "_law_side" (defArgs (topS 27)) (defBody (topS 27)) (defScope (topS 27)) .none kV12 dc12 pm12 an12 cd12 ct12), (PySem.W.fnOf "_law_view" "_law_view" (defArgs (topS 28)) (defBody (topS 28)) (defScope (topS 28)) .none kV13 dc13 pm13 an13 cd13 ct13), (PySem.W.fnOf "_law_wants" "_law_wants" (defArgs (topS 29)) (defBody (topS 29)) (defScope (topS 29)) .none kV14 dc14 pm14 an14 cd14 ct14), (PySem.W.fnOf "_law_over" "_law_over" (defArgs (topS 30)) (defBody (topS 30)) (defScope (topS 30)) .none kV15 dc15 pm15 an15 cd15 ct15), (PySem.W.fnOf "_law_kind" "_law_kind" (defArgs (topS 31)) (defBody (topS 31)) (defScope (topS 31)) .none kV16 dc16 pm16 an16 cd16 ct16), (PySem.W.fnOf "_law_is_view" "_law_is_view" (defArgs (topS 32)) (defBody (topS 32)) (defScope (topS 32)) .none kV17 dc17 pm17 an17 cd17 ct17), (PySem.W.fnOf "_law_odd" "_law_odd" (defArgs (topS 33)) (defBody (topS 33)) (defScope (topS 33)) .none kV18 dc18 pm18 an18 cd18 ct18), (PySem.W.fnOf "law" "law" (defArgs (topS 34)) (defBody (topS 34)) (defScope (topS 34)) .none kV19 dc19 pm19 an19 (.ref cc19) ct19)].getD i (PySem.W.fnOf "need_levels" "need_levels" (defArgs (topS 14)) (defBody (topS 14)) (defScope (topS 14)) .none kV0 dc0 pm0 an0 cd0 ct0)
  let tk : Nat → Tok := fun i => [0, 0, 0, 0, 0, 0, 0, 0, 0, 0, 0, t11, t12].getD i 0
  have T : Txt K mg A FD tk := by
    constructor
    · exact fun_mk (st := topS 14) l0 c0 k0
    · exact PySem.W.mg_of X G n0
    · exact (fun_mk (st := topS 14) l0 c0 k0).binds (ps := ["levels"]) fun _ _ _ _ _ _ us hl => match us, hl with | [_], _ => rfl
    · exact fun_mk (st := topS 15) l1 c1 k1
    · exact PySem.W.mg_of X G n1
    · exact (fun_mk (st := topS 15) l1 c1 k1).binds (ps := ["levels", "square"]) fun _ _ _ _ _ _ us hl => match us, hl with | [_, _], _ => rfl
    · exact fun_mk (st := topS 16) l2 c2 k2
    · exact PySem.W.mg_of X G n2
    · exact (fun_mk (st := topS 16) l2 c2 k2).binds (ps := ["levels", "square"]) fun _ _ _ _ _ _ us hl => match us, hl with | [_, _], _ => rfl
    · exact fun_mk (st := topS 17) l3 c3 k3
    · exact PySem.W.mg_of X G n3
    · exact (fun_mk (st := topS 17) l3 c3 k3).binds (ps := ["square"]) fun _ _ _ _ _ _ us hl => match us, hl with | [_], _ => rfl
    · exact fun_mk (st := topS 18) l4 c4 k4
    · exact PySem.W.mg_of X G n4
    · exact (fun_mk (st := topS 18) l4 c4 k4).binds (ps := ["levels", "square"]) fun _ _ _ _ _ _ us hl => match us, hl with | [_, _], _ => rfl
    · exact fun_mk (st := topS 19) l5 c5 k5
    · exact PySem.W.mg_of X G n5
    · exact (fun_mk (st := topS 19) l5 c5 k5).binds (ps := ["levels", "view"]) fun _ _ _ _ _ _ us hl => match us, hl with | [_, _], _ => rfl
    · exact fun_mk (st := topS 20) l6 c6 k6
    · exact PySem.W.mg_of X G n6
    · exact (fun_mk (st := topS 20) l6 c6 k6).binds (ps := ["levels", "view"]) fun _ _ _ _ _ _ us hl => match us, hl with | [_, _], _ => rfl
    · exact fun_mk (st := topS 21) l7 c7 k7
    · exact PySem.W.mg_of X G n7
    · exact (fun_mk (st := topS 21) l7 c7 k7).binds (ps := ["view"]) fun _ _ _ _ _ _ us hl => match us, hl with | [_], _ => rfl
    · exact fun_mk (st := topS 22) l8 c8 k8
    · exact PySem.W.mg_of X G n8
    · exact (fun_mk (st := topS 22) l8 c8 k8).binds (ps := ["levels", "view"]) fun _ _ _ _ _ _ us hl => match us, hl with | [_, _], _ => rfl
    · exact fun_mk (st := topS 24) l9 c9 k9
    · exact PySem.W.mg_of X G n9
    · exact (fun_mk (st := topS 24) l9 c9 k9).binds (ps := ["_law_script", "_law_seed"]) fun _ _ _ _ _ _ us hl => match us, hl with | [_, _], _ => rfl
    · exact fun_mk (st := topS 25) l10 c10 k10
    · exact PySem.W.mg_of X G n10
    · exact (fun_mk (st := topS 25) l10 c10 k10).binds (ps := ["_law_h", "_law_many"]) fun _ _ _ _ _ _ us hl => match us, hl with | [_, _], _ => rfl
    · exact fun_mk (st := topS 26) l11 c11 k11
    · exact PySem.W.mg_of X G n11
    · exact (fun_mk (st := topS 26) l11 c11 k11).binds (ps := ["_law_found", "_law_due"]) fun _ _ _ _ _ _ us hl => match us, hl with | [_, _], _ => rfl
    · exact fun_mk (st := topS 27) l12 c12 k12
    · exact PySem.W.mg_of X G n12
    · exact (fun_mk (st := topS 27) l12 c12 k12).binds (ps := ["_law_level"]) fun _ _ _ _ _ _ us hl => match us, hl with | [_], _ => rfl
    · exact fun_mk (st := topS 28) l13 c13 k13
    · exact PySem.W.mg_of X G n13
    · exact (fun_mk (st := topS 28) l13 c13 k13).binds (ps := ["_law_h", "_law_levels"]) fun _ _ _ _ _ _ us hl => match us, hl with | [_, _], _ => rfl
    · exact fun_mk (st := topS 29) l14 c14 k14
    · exact PySem.W.mg_of X G n14
    · exact (fun_mk (st := topS 29) l14 c14 k14).binds (ps := ["_law_view_here"]) fun _ _ _ _ _ _ us hl => match us, hl with | [_], _ => rfl
    · exact fun_mk (st := topS 30) l15 c15 k15
    · exact PySem.W.mg_of X G n15
    · exact (fun_mk (st := topS 30) l15 c15 k15).binds (ps := ["_law_square", "_law_level"]) fun _ _ _ _ _ _ us hl => match us, hl with | [_, _], _ => rfl
    · exact fun_mk (st := topS 32) l17 c17 k17
    · exact PySem.W.mg_of X G n17
    · exact (fun_mk (st := topS 32) l17 c17 k17).binds (ps := ["_law_levels", "_law_view_here"]) fun _ _ _ _ _ _ us hl => match us, hl with | [_, _], _ => rfl
    · exact fun_mk (st := topS 33) l18 c18 k18
    · exact PySem.W.mg_of X G n18
    · exact (fun_mk (st := topS 33) l18 c18 k18).binds (ps := ["_law_h", "_law_levels"]) fun _ _ _ _ _ _ us hl => match us, hl with | [_, _], _ => rfl
    · exact fun_mk (st := topS 34) l19 c19 k19
    · exact PySem.W.mg_of X G n19
    · exact (fun_mk (st := topS 34) l19 c19 k19).binds (ps := ["_law_script"]) fun _ _ _ _ _ _ us hl => match us, hl with | [_], _ => rfl
    · exact func_mk (st := topS 34) l19 c19 k19
    · exact fun_mk (st := topS 31) l16 c16 k16
    · exact PySem.W.mg_of X G n16
    · exact (fun_mk (st := topS 31) l16 c16 k16).binds (ps := ["_law_work"]) fun _ _ _ _ _ _ us hl => match us, hl with | [_], _ => rfl
    · exact PySem.W.mg_of X G en0
    · exact PySem.W.mg_of X G en4
    · exact PySem.W.mg_of X G en5
    · exact PySem.W.mg_of X G en6
    · exact PySem.W.mg_of X G en7
    · exact PySem.W.mg_of X G en8
    · exact ⟨xc1_0, xc1_1, xc1_2, xc1_3, xc1_4, xc1_5, xc1_6, xc1_7⟩
    · exact em1
    · exact kv1
    · exact kt1_1
    · exact kt1_2
    · exact kt1_3
    · exact kt1_4
    · exact kt1_5
    · exact kt1_6
    · exact kt1_7
    · exact kt1_8
    · exact ⟨xc2_0, xc2_1, xc2_2, xc2_3, xc2_4, xc2_5, xc2_6, xc2_7⟩
    · exact em2
    · exact kv2
    · exact kt2_1
    · exact kt2_2
    · exact kt2_3
    · exact kt2_4
    · exact kt2_5
    · exact kt2_6
    · exact kt2_7
    · exact kt2_8
    · exact ⟨xc3_0, xc3_1, xc3_2, xc3_3, xc3_4, xc3_5, xc3_6, xc3_7⟩
    · exact em3
    · exact kv3
    · exact kt3_1
    · exact kt3_2
    · exact kt3_3
    · exact kt3_4
    · exact kt3_5
    · exact kt3_6
    · exact kt3_7
    · exact kt3_8
    · exact PySem.W.mg_of X G en1
    · exact ex1
    · exact ek1
    · exact es1
    · exact et1
    · exact PySem.W.mg_of X G en2
    · exact ex2
    · exact ek2
    · exact es2
    · exact et2
    · exact PySem.W.mg_of X G en3
    · exact ex3
    · exact ek3
    · exact es3
    · exact et3
    · exact PySem.W.mg_none_of X G z_ValueError
    · exact PySem.W.mg_none_of X G z_bool
    · exact PySem.W.mg_none_of X G z_int
    · exact PySem.W.mg_none_of X G z_isinstance
    · exact PySem.W.mg_none_of X G z_len
    · exact PySem.W.mg_none_of X G z_list
    · exact PySem.W.mg_none_of X G z_max
    · exact PySem.W.mg_none_of X G z_min
    · exact PySem.W.mg_none_of X G z_range
    · exact PySem.W.mg_none_of X G z_str
    · exact PySem.W.mg_none_of X G z_tuple
    · exact PySem.W.mg_of X G g11
    · exact PySem.W.mg_of X G g12
    · exact PySem.W.mg_of X G g13
    · exact fun I => .tup (.inr ⟨_, _, _, h13, rfl, rfl, (by show 6 ≤ sizeLine; decide), (.cons (relI 1 _) (.cons (relI 2 _) (.cons (relI 4 _) (.cons (relI 8 _) (.cons (relI 16 _) (.cons (relI 32 _) .nil))))))⟩) (.cons (.int _) (.cons (.int _) (.cons (.int _) (.cons (.int _) (.cons (.int _) (.cons (.int _) .nil))))))
  have e := hfa.symm.trans T.m_law
  cases e
  have tabs : ∀ base : Heap, (∀ p ∈ [(cc19, tt19)], LamX.TabB base mg p.1 p.2) → ∀ c t, (c, t) ∈ [(cc19, tt19)] → LamX.TabB base mg c t := fun _ hB c t z => hB (c, t) z
  exact ⟨FD 19, [(cc19, tt19)], TP.spLaw K, (List.forall_mem_cons.mpr ⟨ht19, fun _ z => nomatch z⟩), (List.forall_mem_cons.mpr ⟨nt19, fun _ z => nomatch z⟩), (List.forall_mem_cons.mpr ⟨PySem.W.codeHd_of_K X ch19, fun _ z => nomatch z⟩), fun s v => .of_eq rfl, fun H a ns hl _ hT hS => ⟨a, ns, rfl, hl, hS, (List.forall_mem_cons.mpr ⟨LamX.TabS.nil (hT _ (List.mem_cons_self)), fun _ z => nomatch z⟩), fun _ => rfl⟩, fun base _ _ hB => (ok_law T (hB _ List.mem_cons_self) List.mem_cons_self (fun p hp _ => by rw [List.mem_singleton.mp hp])).imp fun vs H Q E hs => law_in law_ok hs⟩
end TL
end
open PySem PySem.W PyProof.Rows
set_option maxRecDepth 100000 in
set_option maxHeartbeats 0 in
theorem PySem.Challenge.cw_tilepyramid_k01_squares_and_views_holds : PySem.Challenge.rw_tilepyramid_k01_squares_and_views.Holds := by
  w_on; o_law; k_head; (case hw => w_witness2)
  k_fill
  refine LamX.walk_ofTs (l := PySem.Challenge.rw_tilepyramid_k01_squares_and_views) (n := 63) (k := 8) (x := "_law_script") (CX := fun w => L2.CX PySem.Challenge.rw_tilepyramid_k01_squares_and_views.prog w) rfl (by decide) rfl ⟨rfl, by decide, by decide⟩ (fun w h Y => PySem.W.km_in_of Y) ?F (fun w H s e s' z => TP.cx_end z)
  case F =>
    intro w mg fa h Y KX G hmg
    km_tabs Y
    refine' TL.all_mk KX G hmg ?n0 ?l0 ?c0 ?k0 ?n1 ?l1 ?c1 ?k1 ?n2 ?l2 ?c2 ?k2 ?n3 ?l3 ?c3 ?k3 ?n4 ?l4 ?c4 ?k4 ?n5 ?l5 ?c5 ?k5 ?n6 ?l6 ?c6 ?k6 ?n7 ?l7 ?c7 ?k7 ?n8 ?l8 ?c8 ?k8 ?n9 ?l9 ?c9 ?k9 ?n10 ?l10 ?c10 ?k10 ?n11 ?l11 ?c11 ?k11 ?n12 ?l12 ?c12 ?k12 ?n13 ?l13 ?c13 ?k13 ?n14 ?l14 ?c14 ?k14 ?n15 ?l15 ?c15 ?k15 ?n17 ?l17 ?c17 ?k17 ?n18 ?l18 ?c18 ?k18 ?n19 ?l19 ?c19 ?k19 ?en1 ?ex1 ?ek1 ?es1 ?et1 ?en2 ?ex2 ?ek2 ?es2 ?et2 ?en3 ?ex3 ?ek3 ?es3 ?et3 ?n16 ?l16 ?c16 ?k16 ?en0 ?en4 ?en5 ?en6 ?en7 ?en8 ?xc1_0 ?xc1_1 ?xc1_2 ?xc1_3 ?xc1_4 ?xc1_5 ?xc1_6 ?xc1_7 ?em1 ?kv1 ?kt1_1 ?kt1_2 ?kt1_3 ?kt1_4 ?kt1_5 ?kt1_6 ?kt1_7 ?kt1_8 ?xc2_0 ?xc2_1 ?xc2_2 ?xc2_3 ?xc2_4 ?xc2_5 ?xc2_6 ?xc2_7 ?em2 ?kv2 ?kt2_1 ?kt2_2 ?kt2_3 ?kt2_4 ?kt2_5 ?kt2_6 ?kt2_7 ?kt2_8 ?xc3_0 ?xc3_1 ?xc3_2 ?xc3_3 ?xc3_4 ?xc3_5 ?xc3_6 ?xc3_7 ?em3 ?kv3 ?kt3_1 ?kt3_2 ?kt3_3 ?kt3_4 ?kt3_5 ?kt3_6 ?kt3_7 ?kt3_8 ?cr19 ?co19 ?tb19 ?ch19 ?ht19 ?nt19 ?z_ValueError ?z_bool ?z_int ?z_isinstance ?z_len ?z_list ?z_max ?z_min ?z_range ?z_str ?z_tuple ?g11 ?g12 ?g13 ?h13
    (case n0 => k_is)
    (case l0 => k_is)
    (case c0 => k_is)
    (case k0 => k_is)
    (case n1 => k_is)
    (case l1 => k_is)
    (case c1 => k_is)
    (case k1 => k_is)
    (case n2 => k_is)
    (case l2 => k_is)
    (case c2 => k_is)
    (case k2 => k_is)
    (case n3 => k_is)
    (case l3 => k_is)
    (case c3 => k_is)
    (case k3 => k_is)
    (case n4 => k_is)
    (case l4 => k_is)
    (case c4 => k_is)
    (case k4 => k_is)
    (case n5 => k_is)
    (case l5 => k_is)
    (case c5 => k_is)
    (case k5 => k_is)
    (case n6 => k_is)
    (case l6 => k_is)
    (case c6 => k_is)
    (case k6 => k_is)
    (case n7 => k_is)
    (case l7 => k_is)
    (case c7 => k_is)
    (case k7 => k_is)
    (case n8 => k_is)
    (case l8 => k_is)
    (case c8 => k_is)
    (case k8 => k_is)
    (case n9 => k_is)
    (case l9 => k_is)
    (case c9 => k_is)
    (case k9 => k_is)
    (case n10 => k_is)
    (case l10 => k_is)
    (case c10 => k_is)
    (case k10 => k_is)
    (case n11 => k_is)
    (case l11 => k_is)
    (case c11 => k_is)
    (case k11 => k_is)
    (case n12 => k_is)
    (case l12 => k_is)
    (case c12 => k_is)
    (case k12 => k_is)
    (case n13 => k_is)
    (case l13 => k_is)
    (case c13 => k_is)
    (case k13 => k_is)
    (case n14 => k_is)
    (case l14 => k_is)
    (case c14 => k_is)
    (case k14 => k_is)
    (case n15 => k_is)
    (case l15 => k_is)
    (case c15 => k_is)
    (case k15 => k_is)
    (case n17 => k_is)
    (case l17 => k_is)
    (case c17 => k_is)
    (case k17 => k_is)
    (case n18 => k_is)
    (case l18 => k_is)
    (case c18 => k_is)
    (case k18 => k_is)
    (case n19 => k_is)
    (case l19 => k_is)
    (case c19 => k_is)
    (case k19 => k_is)
    (case en1 => k_is)
    (case ex1 => k_exc)
    (case ek1 => k_is)
    (case es1 => k_is)
    (case et1 => k_is)
    (case en2 => k_is)
    (case ex2 => k_exc)
    (case ek2 => k_is)
    (case es2 => k_is)
    (case et2 => k_is)
    (case en3 => k_is)
    (case ex3 => k_exc)
    (case ek3 => k_is)
    (case es3 => k_is)
    (case et3 => k_is)
    (case n16 => k_is)
    (case l16 => k_is)
    (case c16 => k_is)
    (case k16 => k_is)
    (case en0 => k_is)
    (case en4 => k_is)
    (case en5 => k_is)
    (case en6 => k_is)
    (case en7 => k_is)
    (case en8 => k_is)
    (case xc1_0 => k_is)
    (case xc1_1 => k_is)
    (case xc1_2 => k_is)
    (case xc1_3 => k_is)
    (case xc1_4 => k_is)
    (case xc1_5 => k_is)
    (case xc1_6 => k_is)
    (case xc1_7 => k_is)
    (case em1 => kernel_rfl)
    (case kv1 => kernel_rfl)
    (case kt1_1 => kernel_rfl)
    (case kt1_2 => kernel_rfl)
    (case kt1_3 => kernel_rfl)
    (case kt1_4 => kernel_rfl)
    (case kt1_5 => kernel_rfl)
    (case kt1_6 => kernel_rfl)
    (case kt1_7 => kernel_rfl)
    (case kt1_8 => kernel_rfl)
    (case xc2_0 => k_is)
    (case xc2_1 => k_is)
    (case xc2_2 => k_is)
    (case xc2_3 => k_is)
    (case xc2_4 => k_is)
    (case xc2_5 => k_is)
    (case xc2_6 => k_is)
    (case xc2_7 => k_is)
    (case em2 => kernel_rfl)
    (case kv2 => kernel_rfl)
    (case kt2_1 => kernel_rfl)
    (case kt2_2 => kernel_rfl)
    (case kt2_3 => kernel_rfl)
    (case kt2_4 => kernel_rfl)
    (case kt2_5 => kernel_rfl)
    (case kt2_6 => kernel_rfl)
    (case kt2_7 => kernel_rfl)
    (case kt2_8 => kernel_rfl)
    (case xc3_0 => k_is)
    (case xc3_1 => k_is)
    (case xc3_2 => k_is)
    (case xc3_3 => k_is)
    (case xc3_4 => k_is)
    (case xc3_5 => k_is)
    (case xc3_6 => k_is)
    (case xc3_7 => k_is)
    (case em3 => kernel_rfl)
    (case kv3 => kernel_rfl)
    (case kt3_1 => kernel_rfl)
    (case kt3_2 => kernel_rfl)
    (case kt3_3 => kernel_rfl)
    (case kt3_4 => kernel_rfl)
    (case kt3_5 => kernel_rfl)
    (case kt3_6 => kernel_rfl)
    (case kt3_7 => kernel_rfl)
    (case kt3_8 => kernel_rfl)
    (case cr19 => rfl)
    (case co19 => k_is)
    (case tb19 => rfl)
    (case ch19 => kernel_rfl)
    (case ht19 => exact hT8 _ (by k_mem))
    (case nt19 => kernel_rfl)
    (case z_ValueError => k_is)
    (case z_bool => k_is)
    (case z_int => k_is)
    (case z_isinstance => k_is)
    (case z_len => k_is)
    (case z_list => k_is)
    (case z_max => k_is)
    (case z_min => k_is)
    (case z_range => k_is)
    (case z_str => k_is)
    (case z_tuple => k_is)
    (case g11 => k_is)
    (case g12 => k_is)
    (case g13 => k_is)
    (case h13 => k_is)
